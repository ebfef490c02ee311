/-
  Draws of values. No condition beyond those written in each theorem.
-/
import Derived.Test.YtgbedilaiefcbaaDraw
import Derived.Test.YtgbedilaiefcbaaVals2
namespace Go.Proofs.Ytgbedilaiefcbaa
open Go.RowKit
set_option linter.unusedVariables false
set_option linter.unusedSimpArgs false
set_option linter.unusedSectionVars false
set_option maxRecDepth 4000

theorem ok_app {α : Type} {q : α → Prop} {xs : List α} {y : α} (h : ∀ x ∈ xs, q x) (hy : q y) : ∀ x ∈ xs ++ [y], q x := fun x m => by
  rcases List.mem_append.1 m with m | m
  · exact h x m
  · rw [List.mem_singleton] at m; subst m; exact hy
theorem ext_size (s : ByteArray) (a b : Nat) : (s.extract a b).size ≤ b - a := by rw [ByteArray.size_extract]; omega

set_option maxHeartbeats 2000000 in
theorem l28Values_ok (b cb : Nat) (w : World) (S : Src w b cb) : Ret Try.prog 55 [.pointer (some ⟨b, 0, none⟩)] w (fun v w' => ∃ (xs : List Val) (q : Option Addr) (m d : Nat), v = .slice q m d ∧ (∀ x ∈ xs, x.ok) ∧ m ≤ 40 ∧ Ow Val.cells 2 37 w' w.heap.size w'.heap.size q m d xs ∧ Mk b (b + 1) w w' ∧ Src w' b cb) := by
  refine ret_of_run (N := 74) Try.func55 rfl rfl rfl ?_
  have hbl := S.lt
  have hcb := S.cb
  have E : Mk b (b + 1) w w := Mk.refl _ _ _
  refine run_seq ?_
  refine run_region ?_
  refine ov (xassign rfl) rfl rfl rfl ?_
  refine ops_nil ?_
  refine run_seq ?_
  refine run_region ?_
  refine obuild (cs := []) (sz := 2) Try.underlying25 inf37 rfl rfl (by decide) rfl rfl (by simp [Value.cells]) rfl rfl rfl ?_
  intro b1 w1 e1 hb1 hz1 O1
  have E := E.trans (Mk.ofExt e1)
  replace S := S.ext e1
  have G1 : Ow Val.cells 2 37 w1 b1 (b1 + 1) (some ⟨b1, 0, none⟩) 0 0 ([] : List Val) := Own.ow (by simpa [Val.cells, strc] using O1) rfl (by omega) (Nat.le_refl _) (by omega) (by intro x hx; rfl)
  refine ov (xassign rfl) rfl rfl rfl ?_
  refine ops_nil ?_
  refine run_seq ?_
  refine run_region ?_
  refine obuild (cs := [.string ⟨#[106, 117, 100, 103, 101]⟩, .string ⟨#[100, 97, 121]⟩, .string ⟨#[99, 114, 105, 109, 101]⟩, .string ⟨#[100, 111, 117, 98, 116]⟩]) (sz := 1) Try.underlying48 inf9 rfl rfl (by decide) rfl rfl (by simp [Value.cells]) rfl rfl rfl ?_
  intro b2 w2 e2 hb2 hz2 O2
  have E := E.trans (Mk.ofExt e2)
  replace S := S.ext e2
  replace G1 := G1.ext e2
  have G2 : Ow strc 1 9 w2 b2 (b2 + 1) (some ⟨b2, 0, none⟩) 4 4 ([⟨#[106, 117, 100, 103, 101]⟩, ⟨#[100, 97, 121]⟩, ⟨#[99, 114, 105, 109, 101]⟩, ⟨#[100, 111, 117, 98, 116]⟩] : List ByteArray) := Own.ow (by simpa [Val.cells, strc] using O2) rfl (by omega) (Nat.le_refl _) (by omega) (by intro x hx; rfl)
  refine ov (xassign rfl) rfl rfl rfl ?_
  refine ops_nil ?_
  refine run_seq ?_
  refine run_seq ?_
  refine run_region ?_
  refine ov (xassign rfl) rfl rfl rfl ?_
  refine ops_nil ?_
  refine run_block ?_
  refine run_loop (ι := Nat × Option Addr × Nat × Nat × List Val × World) (fun x_ => match x_ with | (k, q_3, m_3, c_3, ys_3, wr) => (Mk b (b + 1) w wr) ∧ (Src wr b cb) ∧ (Ow strc 1 9 wr b2 (b2 + 1) (some ⟨b2, 0, none⟩) 4 4 ([⟨#[106, 117, 100, 103, 101]⟩, ⟨#[100, 97, 121]⟩, ⟨#[99, 114, 105, 109, 101]⟩, ⟨#[100, 111, 117, 98, 116]⟩] : List ByteArray)) ∧ (Ow Val.cells 2 37 wr b1 wr.heap.size q_3 m_3 c_3 ys_3) ∧ (b1 ≤ wr.heap.size) ∧ (w2.heap.size ≤ wr.heap.size) ∧ (k ≤ 4) ∧ (m_3 ≤ k) ∧ (∀ x ∈ ys_3, x.ok)) (fun x_ => match x_ with | (k, q_3, m_3, c_3, ys_3, wr) => [(0, .pointer (some ⟨b, 0, none⟩)), (3, .slice q_3 m_3 c_3), (4, .slice (some ⟨b2, 0, none⟩) 4 4), (5, .int .i64 (k : Int))]) (fun x_ => match x_ with | (k, q_3, m_3, c_3, ys_3, wr) => wr) (fun x_ => match x_ with | (k, q_3, m_3, c_3, ys_3, wr) => 4 - k) ?_ (0, (some ⟨b1, 0, none⟩), 0, 0, [], w2) (⟨E, S, G2, G1.wide (by omega) (by omega), by omega, Nat.le_refl _, by omega, by omega, by intro x hx; cases hx⟩) ⟨rfl, rfl, rfl, rfl, trivial⟩ rfl
  intro i_ hI_ hback4
  obtain ⟨k, q_3, m_3, c_3, ys_3, wr⟩ := i_
  obtain ⟨E, S, G2, G_3, lo_3, lz_wr, hk, hm3, hall⟩ := hI_
  try dsimp only
  have zr := E.size
  have lg_3 := G_3.len
  refine run_seq ?_
  refine run_seq ?_
  refine run_region ?_
  refine ov (xmove rfl) rfl rfl rfl ?_
  refine ov (xmove rfl) rfl rfl rfl ?_
  refine ov (xlen Try.underlying48 rfl) rfl rfl rfl ?_
  refine ov (xlss rfl rfl _ rfl) rfl rfl rfl ?_
  refine ods (fun c12 => ?_) (fun c12 => ?_)
  ·
    refine ops_nil ?_
    refine run_cond_t rfl ?_
    refine run_skip ?_
    refine run_seq ?_
    refine run_block ?_
    refine run_seq ?_
    refine run_region ?_
    refine ov (xmove rfl) rfl rfl rfl ?_
    refine oc (xcall Try.call56 rfl) rfl rfl rfl (l01Next_ok b cb (3) _ S) ?_
    rintro _ w3 ⟨r16_0, rfl, h16_0, h16_1, m3, S3⟩
    have z3 := m3.size
    have E := E.trans m3
    replace G_3 := G_3.off m3 (by omega)
    replace G2 := G2.off m3 (by omega)
    replace S := S3
    refine ov (xgtr rfl rfl _ rfl) rfl rfl rfl ?_
    refine ods (fun c17 => ?_) (fun c17 => ?_)
    ·
      refine ops_nil ?_
      refine run_cond_t rfl ?_
      refine run_rg (τ := [(0, .pointer (some ⟨b, 0, none⟩)), (3, .slice q_3 m_3 c_3), (4, .slice (some ⟨b2, 0, none⟩) 4 4), (5, .int .i64 (k : Int))]) 12 [18, 19, 20, 21, 22, 23, 24, 25, 26, 27, 28, 29] (fun u_ => Mk b (b + 1) w3 u_ ∧ Src u_ b cb) (fun i_ => Mk b (b + 1)) (fun i_ v_ u_ => match i_ with | 0 => v_ = .slice q_3 m_3 c_3 | 1 => v_ = .slice (some ⟨b2, 0, none⟩) 4 4 | 2 => v_ = .int .i64 (k : Int) | 3 => ∃ (y0_ : Nat) (y1_ : Nat) (y2_ : ByteArray), v_ = .pointer (some ⟨y0_, y1_, none⟩) ∧ b < y0_ ∧ Cells u_ y0_ y1_ [.string y2_] ∧ (y2_).size ≤ 5 | 4 => ∃ (y0_ : ByteArray), v_ = .string y0_ ∧ (y0_).size ≤ 5 | 5 => ∃ (y0_ : Nat), v_ = .slice (some ⟨y0_, 0, none⟩) 4 4 ∧ w3.heap.size ≤ y0_ ∧ Sl strc 1 u_ (some ⟨y0_, 0, none⟩) 4 4 ([⟨#[]⟩, ⟨#[66, 101, 114, 103]⟩, ⟨#[97, 32, 108, 111, 110, 103, 32, 100, 97, 121]⟩, ⟨#[116, 104, 101, 102, 116]⟩] : List ByteArray) | 6 => v_ = .pointer (some ⟨b, 0, none⟩) | 7 => ∃ (y0_ : Int), v_ = .int .i64 y0_ ∧ 0 ≤ y0_ ∧ (y0_ < 4 ∨ y0_ = 0) | 8 => ∃ (y0_ : Nat) (y1_ : Nat) (y2_ : ByteArray), v_ = .pointer (some ⟨y0_, y1_, none⟩) ∧ b < y0_ ∧ Cells u_ y0_ y1_ [.string y2_] ∧ (y2_).size ≤ 10 | 9 => ∃ (y0_ : ByteArray), v_ = .string y0_ ∧ (y0_).size ≤ 10 | 10 => ∃ (y0_ : ByteArray) (y1_ : ByteArray), v_ = .agg #[.string y0_, .string y1_] ∧ (y0_).size ≤ 5 ∧ (y1_).size ≤ 10 | 11 => ∃ (y0_ : Nat) (y1_ : ByteArray) (y2_ : ByteArray), v_ = .slice (some ⟨y0_, 0, none⟩) 1 1 ∧ w3.heap.size ≤ y0_ ∧ Sl Val.cells 2 u_ (some ⟨y0_, 0, none⟩) 1 1 [(⟨(y1_), (y2_)⟩ : Val)] ∧ (y1_).size ≤ 5 ∧ (y2_).size ≤ 10 | _ => True) [(0, some 18), (11, some 29)] (by kernel_rfl) (by kernel_rfl) (by kernel_rfl) (by kernel_rfl) (by kernel_rfl) (by kernel_rfl) ⟨rfl, rfl, rfl, rfl, trivial⟩ rfl (fun u_ e_ z_ => ⟨Mk.ofExt e_, S.ext e_⟩) ?_ ?_ ?_
      · intro i_ j_ hi_ hj_ hij_ v_ u_ u2_ I_ I2_ r_ g_
        have zu_ := I_.1.size
        clear hi_
        rcases (by omega : j_ = 0 ∨ j_ = 1 ∨ j_ = 2 ∨ j_ = 3 ∨ j_ = 4 ∨ j_ = 5 ∨ j_ = 6 ∨ j_ = 7 ∨ j_ = 8 ∨ j_ = 9 ∨ j_ = 10 ∨ j_ = 11) with rfl | rfl | rfl | rfl | rfl | rfl | rfl | rfl | rfl | rfl | rfl | rfl
        · exact g_
        · exact g_
        · exact g_
        · obtain ⟨g21_0, g21_1, g21_2, rfl, f21_0, f21_1, f21_2⟩ := g_
          exact ⟨g21_0, g21_1, g21_2, rfl, f21_0, r_.cells f21_1 (by omega), f21_2⟩
        · exact g_
        · obtain ⟨g23_0, rfl, f23_0, f23_1⟩ := g_
          exact ⟨g23_0, rfl, f23_0, f23_1.off r_ (by simp only [pb, Option.getD_some]; omega)⟩
        · exact g_
        · exact g_
        · obtain ⟨g26_0, g26_1, g26_2, rfl, f26_0, f26_1, f26_2⟩ := g_
          exact ⟨g26_0, g26_1, g26_2, rfl, f26_0, r_.cells f26_1 (by omega), f26_2⟩
        · exact g_
        · exact g_
        · obtain ⟨g29_0, g29_1, g29_2, rfl, f29_0, f29_1, f29_2, f29_3⟩ := g_
          exact ⟨g29_0, g29_1, g29_2, rfl, f29_0, f29_1.off r_ (by simp only [pb, Option.getD_some]; omega), f29_2, f29_3⟩
      ·
        refine rga [] (by kernel_rfl) ?_ ?_
        · intro u_ I_
          have zu_ := I_.1.size
          refine rg_val (xmove rfl) rfl I_ (Mk.refl _ _ _) rfl
        refine rga [] (by kernel_rfl) ?_ ?_
        · intro u_ I_
          have zu_ := I_.1.size
          refine rg_val (xmove rfl) rfl I_ (Mk.refl _ _ _) rfl
        refine rga [] (by kernel_rfl) ?_ ?_
        · intro u_ I_
          have zu_ := I_.1.size
          refine rg_val (xmove rfl) rfl I_ (Mk.refl _ _ _) rfl
        refine rga [(1, some 19), (2, some 20)] (by kernel_rfl) ?_ ?_
        · rintro u_ I_ _ rfl _ rfl
          have zu_ := I_.1.size
          have G2 := G2.off I_.1 (by omega)
          have hh_ := (G2.sl).at (i := k) (by show k < 4; omega)
          refine rg_val (xindexN (i := k) Try.underlying48 Try.sizeOf9 rfl rfl rfl ((G2.sl).p (i := k) (by show k < 4; omega)) (by omega)) rfl I_ (Mk.refl _ _ _) ?_
          exact ⟨_, _, _, rfl, by simp only [pb, Option.getD_some]; omega, hh_, (by decide : ∀ x ∈ ([⟨#[106, 117, 100, 103, 101]⟩, ⟨#[100, 97, 121]⟩, ⟨#[99, 114, 105, 109, 101]⟩, ⟨#[100, 111, 117, 98, 116]⟩] : List ByteArray), x.size ≤ 5) _ (List.getElem_mem _)⟩
        refine rga [(3, some 21)] (by kernel_rfl) ?_ ?_
        · rintro u_ I_ _ ⟨g21_0, g21_1, g21_2, rfl, f21_0, f21_1, f21_2⟩
          have zu_ := I_.1.size
          refine rg_val (xloadz Try.isAgg9 rfl f21_1 rfl) rfl I_ (Mk.refl _ _ _) ⟨g21_2, rfl, f21_2⟩
        refine rga [] (by kernel_rfl) ?_ ?_
        · intro u_ I_
          have zu_ := I_.1.size
          refine rg_build (len := 4) (vs := [.string ⟨#[]⟩, .string ⟨#[66, 101, 114, 103]⟩, .string ⟨#[97, 32, 108, 111, 110, 103, 32, 100, 97, 121]⟩, .string ⟨#[116, 104, 101, 102, 116]⟩]) (cs := [.string ⟨#[]⟩, .string ⟨#[66, 101, 114, 103]⟩, .string ⟨#[97, 32, 108, 111, 110, 103, 32, 100, 97, 121]⟩, .string ⟨#[116, 104, 101, 102, 116]⟩]) (sz := 1) Try.underlying48 inf9 rfl rfl (by decide) (by rfl) (by rfl) (by simp [Value.cells]) rfl rfl ?_
          intro b_ w_ e_ hb_ O_
          refine ⟨⟨I_.1.trans (Mk.ofExt e_), I_.2.ext e_⟩, Mk.ofExt e_, ⟨b_, rfl, (by omega), (Own.ow (lo := b_) (hi := b_ + 1) (enc := strc) (sz := 1) (xs := ([⟨#[]⟩, ⟨#[66, 101, 114, 103]⟩, ⟨#[97, 32, 108, 111, 110, 103, 32, 100, 97, 121]⟩, ⟨#[116, 104, 101, 102, 116]⟩] : List ByteArray)) (n := 4) (by simpa [strc] using O_) rfl (by omega) (Nat.le_refl _) (by omega) (by intro x hx; rfl)).sl⟩⟩
        refine rga [] (by kernel_rfl) ?_ ?_
        · intro u_ I_
          have zu_ := I_.1.size
          refine rg_val (xmove rfl) rfl I_ (Mk.refl _ _ _) rfl
        refine rga [(6, some 24)] (by kernel_rfl) ?_ ?_
        · rintro u_ I_ _ rfl
          have zu_ := I_.1.size
          refine rg_call (xcall Try.call56 rfl) rfl (l01Next_ok b cb (4) _ I_.2) ?_
          rintro _ w_ ⟨r_0, rfl, h_0, h_1, m_, S_⟩
          exact ⟨⟨I_.1.trans m_, S_⟩, m_, ⟨r_0, rfl, h_0, h_1⟩⟩
        refine rga [(5, some 23), (7, some 25)] (by kernel_rfl) ?_ ?_
        · rintro u_ I_ _ ⟨g23_0, rfl, f23_0, f23_1⟩ _ ⟨g25_0, rfl, f25_0, f25_1⟩
          have zu_ := I_.1.size
          have hh_ := (f23_1).at (i := (g25_0).toNat) (by show (g25_0).toNat < 4; omega)
          refine rg_val (xindexN (i := (g25_0).toNat) Try.underlying48 Try.sizeOf9 rfl rfl (by omega) ((f23_1).p (i := (g25_0).toNat) (by show (g25_0).toNat < 4; omega)) (by omega)) rfl I_ (Mk.refl _ _ _) ?_
          exact ⟨_, _, _, rfl, by simp only [pb, Option.getD_some]; omega, hh_, (by decide : ∀ x ∈ ([⟨#[]⟩, ⟨#[66, 101, 114, 103]⟩, ⟨#[97, 32, 108, 111, 110, 103, 32, 100, 97, 121]⟩, ⟨#[116, 104, 101, 102, 116]⟩] : List ByteArray), x.size ≤ 10) _ (List.getElem_mem _)⟩
        refine rga [(8, some 26)] (by kernel_rfl) ?_ ?_
        · rintro u_ I_ _ ⟨g26_0, g26_1, g26_2, rfl, f26_0, f26_1, f26_2⟩
          have zu_ := I_.1.size
          refine rg_val (xloadz Try.isAgg9 rfl f26_1 rfl) rfl I_ (Mk.refl _ _ _) ⟨g26_2, rfl, f26_2⟩
        refine rga [(4, some 22), (9, some 27)] (by kernel_rfl) ?_ ?_
        · rintro u_ I_ _ ⟨g22_0, rfl, f22_0⟩ _ ⟨g27_0, rfl, f27_0⟩
          have zu_ := I_.1.size
          refine rg_val (xbuild (vs := [.string g22_0, .string g27_0]) (cells := #[.string g22_0, .string g27_0]) rfl (by kernel_rfl)) rfl I_ (Mk.refl _ _ _) ⟨g22_0, g27_0, rfl, f22_0, f27_0⟩
        refine rga [(10, some 28)] (by kernel_rfl) ?_ ?_
        · rintro u_ I_ _ ⟨g28_0, g28_1, rfl, f28_0, f28_1⟩
          have zu_ := I_.1.size
          refine rg_build (len := 1) (vs := [.agg #[.string g28_0, .string g28_1]]) (cs := [.string g28_0, .string g28_1]) (sz := 2) Try.underlying25 inf37 rfl rfl (by decide) (by rfl) (by rfl) (by simp [Value.cells]) rfl rfl ?_
          intro b_ w_ e_ hb_ O_
          refine ⟨⟨I_.1.trans (Mk.ofExt e_), I_.2.ext e_⟩, Mk.ofExt e_, ⟨b_, g28_0, g28_1, rfl, (by omega), (Own.sl1 (y := (⟨(g28_0), (g28_1)⟩ : Val)) (enc := Val.cells) O_), f28_0, f28_1⟩⟩
        exact rga_nil
      ·
        rintro w4 I_ _ rfl _ ⟨g29_0, g29_1, g29_2, rfl, f29_0, f29_1, f29_2, f29_3⟩
        have m4 := I_.1
        have z4 := m4.size
        have E := E.trans m4
        replace S := I_.2
        replace G_3 := G_3.off m4 (by omega)
        replace G2 := G2.off m4 (by omega)
        refine oappT (bytes := 32) (nm := (m_3 + 1)) G_3 rfl rfl elem37 (f29_1) (f29_1).nil (by intro y hy; rfl) (by intro y hy u hu; rw [List.mem_singleton] at hy; subst hy; revert u; simp [Value.oneCell', Val.cells, strc]) (by omega) (by omega) (by omega) (by omega) rfl rfl ?_
        intro p5 c5_ w5 m5 k5 G5
        have hz5 := m5.size
        have E := E.young m5 (by omega)
        replace S := S.off m5 (by omega)
        replace G2 := (by first | exact G2.off m5 (by omega) | exact G2.offP G_3 k5 (by decide))
        refine ov (xassign rfl) rfl rfl rfl ?_
        refine ops_nil ?_
        refine run_inBlock ?_
        refine run_region ?_
        refine ov (xmove rfl) rfl rfl rfl ?_
        refine ov (xadd rfl rfl (by unfold I64; omega)) rfl rfl rfl ?_
        refine ov (xassign rfl) rfl rfl rfl ?_
        refine ops_nil ?_
        refine run_sub ?_ (hback4 (k + 1, p5, (m_3 + 1), c5_, _, w5) (⟨E, S, G2, G5.wide (by omega) (by omega), by omega, by omega, by omega, by omega, ok_app hall (by constructor <;> (try dsimp only) <;> omega)⟩) (by first | omega | (dsimp only; omega)))
        exact ⟨rfl, rfl, rfl, rfl, trivial⟩
    ·
      refine ops_nil ?_
      refine run_cond_f rfl ?_
      refine run_skip ?_
      refine run_inBlock ?_
      refine run_region ?_
      refine ov (xmove rfl) rfl rfl rfl ?_
      refine ov (xadd rfl rfl (by unfold I64; omega)) rfl rfl rfl ?_
      refine ov (xassign rfl) rfl rfl rfl ?_
      refine ops_nil ?_
      refine run_sub ?_ (hback4 (k + 1, q_3, m_3, c_3, ys_3, w3) (⟨E, S, G2, G_3.wide (by omega) (by omega), by omega, by omega, by omega, by omega, hall⟩) (by first | omega | (dsimp only; omega)))
      exact ⟨rfl, rfl, rfl, rfl, trivial⟩
  ·
    refine ops_nil ?_
    refine run_cond_f rfl ?_
    refine run_exit rfl ?_
    refine run_seq ?_
    refine run_seq ?_
    refine run_region ?_
    refine ov (xmove rfl) rfl rfl rfl ?_
    refine oc (xcall Try.call56 rfl) rfl rfl rfl (l01Next_ok b cb (30) _ S) ?_
    rintro _ w3 ⟨r32_0, rfl, h32_0, h32_1, m3, S3⟩
    have z3 := m3.size
    have E := E.trans m3
    replace G_3 := G_3.off m3 (by omega)
    replace G2 := G2.off m3 (by omega)
    replace S := S3
    refine ops_nil ?_
    refine run_block ?_
    refine run_seq ?_
    refine run_region ?_
    refine ov (xeql rfl rfl _ rfl) rfl rfl rfl ?_
    refine ods (fun c34 => ?_) (fun c34 => ?_)
    ·
      refine ov (xassign rfl) rfl rfl rfl ?_
      refine ops_nil ?_
      refine run_cond_t rfl ?_
      refine run_region ?_
      refine ov (xmove rfl) rfl rfl rfl ?_
      refine ov (xbuild (vs := [.string ⟨#[106, 117, 100, 103, 101]⟩]) (cells := #[.string ⟨#[106, 117, 100, 103, 101]⟩, .string ⟨#[]⟩]) rfl (by kernel_rfl)) rfl rfl rfl ?_
      refine obuild (cs := [.string ⟨#[106, 117, 100, 103, 101]⟩, .string ⟨#[]⟩]) (sz := 2) Try.underlying25 inf37 rfl rfl (by decide) rfl rfl (by simp [Value.cells]) rfl rfl rfl ?_
      intro b4 w4 e4 hb4 hz4 O4
      have E := E.trans (Mk.ofExt e4)
      replace G_3 := G_3.ext e4
      replace S := S.ext e4
      replace G2 := G2.ext e4
      refine oappT (bytes := 32) (nm := (m_3 + 1)) G_3 rfl rfl elem37 (Own.sl1 (y := (⟨⟨#[106, 117, 100, 103, 101]⟩, ⟨#[]⟩⟩ : Val)) O4) (by intro h; cases h) (by intro y hy; rfl) (by intro y hy u hu; rw [List.mem_singleton] at hy; subst hy; revert u; simp [Value.oneCell', Val.cells, strc]) (by omega) (by omega) (by omega) (by omega) rfl rfl ?_
      intro p5 c5_ w5 m5 k5 G5
      have hz5 := m5.size
      have E := E.young m5 (by omega)
      replace S := S.off m5 (by omega)
      replace G2 := (by first | exact G2.off m5 (by omega) | exact G2.offP G_3 k5 (by decide))
      try replace O4 := m5.own O4 (by omega)
      refine ov (xassign rfl) rfl rfl rfl ?_
      refine ops_nil ?_
      refine run_inBlock ?_
      refine run_seq ?_
      refine run_region ?_
      refine ov (xmove rfl) rfl rfl rfl ?_
      refine ov (xassign rfl) rfl rfl rfl ?_
      refine ops_nil ?_
      refine run_ret Try.func55 (res1 rfl rfl) ?_
      exact ⟨_, rfl, _, _, _, _, rfl, ok_app hall ⟨by dsimp only; decide, by dsimp only; decide⟩, by omega, G5.wide (by omega) (by omega), E, S⟩
    ·
      refine ov (xassign rfl) rfl rfl rfl ?_
      refine ops_nil ?_
      refine run_cond_f rfl ?_
      refine run_seq ?_
      refine run_region ?_
      refine ov (xeql rfl rfl _ rfl) rfl rfl rfl ?_
      refine ods (fun c40 => ?_) (fun c40 => ?_)
      ·
        refine ov (xassign rfl) rfl rfl rfl ?_
        refine ops_nil ?_
        refine run_cond_t rfl ?_
        refine run_region ?_
        refine ov (xmove rfl) rfl rfl rfl ?_
        refine obuild (cs := [.string ⟨#[97, 124, 98]⟩, .string ⟨#[97, 10]⟩, .string ⟨#[123]⟩]) (sz := 1) Try.underlying48 inf9 rfl rfl (by decide) rfl rfl (by simp [Value.cells]) rfl rfl rfl ?_
        intro b4 w4 e4 hb4 hz4 O4
        have E := E.trans (Mk.ofExt e4)
        replace G_3 := G_3.ext e4
        replace S := S.ext e4
        replace G2 := G2.ext e4
        have G4 : Ow strc 1 9 w4 b4 (b4 + 1) (some ⟨b4, 0, none⟩) 3 3 ([⟨#[97, 124, 98]⟩, ⟨#[97, 10]⟩, ⟨#[123]⟩] : List ByteArray) := Own.ow (by simpa [Val.cells, strc] using O4) rfl (by omega) (Nat.le_refl _) (by omega) (by intro x hx; rfl)
        refine ov (xmove rfl) rfl rfl rfl ?_
        refine oc (xcall Try.call56 rfl) rfl rfl rfl (l01Next_ok b cb (3) _ S) ?_
        rintro _ w5 ⟨r44_0, rfl, h44_0, h44_1, m5, S5⟩
        have z5 := m5.size
        have E := E.trans m5
        replace G_3 := G_3.off m5 (by omega)
        replace G2 := G2.off m5 (by omega)
        replace G4 := G4.off m5 (by omega)
        replace S := S5
        have h45 := (G4.sl).at (i := r44_0.toNat) (by show r44_0.toNat < 3; omega)
        refine ov (xindexN (i := r44_0.toNat) Try.underlying48 Try.sizeOf9 rfl rfl (by omega) ((G4.sl).p (i := r44_0.toNat) (by show r44_0.toNat < 3; omega)) (by have := (G4.sl).len; omega)) rfl rfl rfl ?_
        refine ov (v := .string (([⟨#[97, 124, 98]⟩, ⟨#[97, 10]⟩, ⟨#[123]⟩] : List ByteArray)[r44_0.toNat]'(by show r44_0.toNat < 3; omega))) (xloadz Try.isAgg9 rfl (h45) rfl) rfl rfl rfl ?_
        refine ov (xbuild (vs := [.string ⟨#[120]⟩, .string (([⟨#[97, 124, 98]⟩, ⟨#[97, 10]⟩, ⟨#[123]⟩] : List ByteArray)[r44_0.toNat]'(by show r44_0.toNat < 3; omega))]) (cells := #[.string ⟨#[120]⟩, .string (([⟨#[97, 124, 98]⟩, ⟨#[97, 10]⟩, ⟨#[123]⟩] : List ByteArray)[r44_0.toNat]'(by show r44_0.toNat < 3; omega))]) rfl (by kernel_rfl)) rfl rfl rfl ?_
        refine obuild (cs := [.string ⟨#[120]⟩, .string (([⟨#[97, 124, 98]⟩, ⟨#[97, 10]⟩, ⟨#[123]⟩] : List ByteArray)[r44_0.toNat]'(by show r44_0.toNat < 3; omega))]) (sz := 2) Try.underlying25 inf37 rfl rfl (by decide) rfl rfl (by simp [Value.cells]) rfl rfl rfl ?_
        intro b6 w6 e6 hb6 hz6 O6
        have E := E.trans (Mk.ofExt e6)
        replace G_3 := G_3.ext e6
        replace S := S.ext e6
        replace G2 := G2.ext e6
        replace G4 := G4.ext e6
        refine oappT (bytes := 32) (nm := (m_3 + 1)) G_3 rfl rfl elem37 (Own.sl1 (y := (⟨⟨#[120]⟩, ([⟨#[97, 124, 98]⟩, ⟨#[97, 10]⟩, ⟨#[123]⟩] : List ByteArray)[r44_0.toNat]'(by show r44_0.toNat < 3; omega)⟩ : Val)) O6) (by intro h; cases h) (by intro y hy; rfl) (by intro y hy u hu; rw [List.mem_singleton] at hy; subst hy; revert u; simp [Value.oneCell', Val.cells, strc]) (by omega) (by omega) (by omega) (by omega) rfl rfl ?_
        intro p7 c7_ w7 m7 k7 G7
        have hz7 := m7.size
        have E := E.young m7 (by omega)
        replace S := S.off m7 (by omega)
        replace G2 := (by first | exact G2.off m7 (by omega) | exact G2.offP G_3 k7 (by decide))
        replace G4 := (by first | exact G4.off m7 (by omega) | exact G4.offP G_3 k7 (by decide))
        try replace O6 := m7.own O6 (by omega)
        refine ov (xassign rfl) rfl rfl rfl ?_
        refine ops_nil ?_
        refine run_inBlock ?_
        refine run_seq ?_
        refine run_region ?_
        refine ov (xmove rfl) rfl rfl rfl ?_
        refine ov (xassign rfl) rfl rfl rfl ?_
        refine ops_nil ?_
        refine run_ret Try.func55 (res1 rfl rfl) ?_
        exact ⟨_, rfl, _, _, _, _, rfl, ok_app hall ⟨by dsimp only; decide, by dsimp only; exact Nat.le_trans ((by decide : ∀ x ∈ ([⟨#[97, 124, 98]⟩, ⟨#[97, 10]⟩, ⟨#[123]⟩] : List ByteArray), x.size ≤ 3) _ (List.getElem_mem _)) (by decide)⟩, by omega, G7.wide (by omega) (by omega), E, S⟩
      ·
        refine ov (xassign rfl) rfl rfl rfl ?_
        refine ops_nil ?_
        refine run_cond_f rfl ?_
        refine run_seq ?_
        refine run_region ?_
        refine ov (xeql rfl rfl _ rfl) rfl rfl rfl ?_
        refine ods (fun c51 => ?_) (fun c51 => ?_)
        ·
          refine ov (xassign rfl) rfl rfl rfl ?_
          refine ops_nil ?_
          refine run_cond_t rfl ?_
          refine run_seq ?_
          refine run_region ?_
          refine ov (xassign rfl) rfl rfl rfl ?_
          refine ops_nil ?_
          refine run_block ?_
          refine run_loop (ι := Nat × Option Addr × Nat × Nat × List Val × World) (fun x_ => match x_ with | (j, q_3, m_3, c_3, ys_3, wr2) => (Mk b (b + 1) w wr2) ∧ (Src wr2 b cb) ∧ (Ow Val.cells 2 37 wr2 b1 wr2.heap.size q_3 m_3 c_3 ys_3) ∧ (b1 ≤ wr2.heap.size) ∧ (w3.heap.size ≤ wr2.heap.size) ∧ (j ≤ 14) ∧ (m_3 ≤ 4 + j) ∧ (∀ x ∈ ys_3, x.ok)) (fun x_ => match x_ with | (j, q_3, m_3, c_3, ys_3, wr2) => [(0, .pointer (some ⟨b, 0, none⟩)), (3, .slice q_3 m_3 c_3), (6, .int .i64 (j : Int))]) (fun x_ => match x_ with | (j, q_3, m_3, c_3, ys_3, wr2) => wr2) (fun x_ => match x_ with | (j, q_3, m_3, c_3, ys_3, wr2) => 14 - j) ?_ (0, q_3, m_3, c_3, ys_3, w3) (⟨E, S, G_3.wide (by omega) (by omega), by omega, Nat.le_refl _, by omega, by omega, hall⟩) ⟨rfl, rfl, rfl, trivial⟩ rfl
          intro i_ hI_ hback15
          obtain ⟨j, q_3, m_3, c_3, ys_3, wr2⟩ := i_
          obtain ⟨E, S, G_3, lo_3, lz_wr2, hj, hm3b, hall2⟩ := hI_
          try dsimp only
          have zr := E.size
          have lg_3 := G_3.len
          refine run_seq ?_
          refine run_seq ?_
          refine run_region ?_
          refine ov (xmove rfl) rfl rfl rfl ?_
          refine ov (xlen Try.underlying25 rfl) rfl rfl rfl ?_
          refine ov (xmove rfl) rfl rfl rfl ?_
          refine oc (xcall Try.call56 rfl) rfl rfl rfl (l01Next_ok b cb (2) _ S) ?_
          rintro _ w4 ⟨r55_0, rfl, h55_0, h55_1, m4, S4⟩
          have z4 := m4.size
          have E := E.trans m4
          replace G_3 := G_3.off m4 (by omega)
          replace S := S4
          refine ov (xadd rfl rfl (by unfold I64; omega)) rfl rfl rfl ?_
          refine ov (xlss rfl rfl _ rfl) rfl rfl rfl ?_
          refine ods (fun c57 => ?_) (fun c57 => ?_)
          ·
            refine ov (xmove rfl) rfl rfl rfl ?_
            refine ov (xmove rfl) rfl rfl rfl ?_
            refine ov (xlss rfl rfl _ rfl) rfl rfl rfl ?_
            refine ods (fun c60 => ?_) (fun c60 => ?_)
            ·
              refine ov (xpick_t rfl rfl) rfl rfl rfl ?_
              refine ops_nil ?_
              refine run_cond_t rfl ?_
              refine run_skip ?_
              refine run_seq ?_
              refine run_block ?_
              refine run_region ?_
              refine ov (xmove rfl) rfl rfl rfl ?_
              refine ov (xmove rfl) rfl rfl rfl ?_
              refine ov (xmove rfl) rfl rfl rfl ?_
              refine ov (xadd rfl rfl (by unfold I64; omega)) rfl rfl rfl ?_
              refine ov (xsliceS Try.underlying9 rfl rfl rfl (by omega) (by omega) (by show _ ≤ ((14 : Nat) : Int); omega)) rfl rfl rfl ?_
              refine ov (xsadd rfl rfl (by have h1 := ext_size ⟨#[97, 98, 99, 100, 101, 102, 103, 104, 105, 106, 107, 108, 109, 110]⟩ (Int.toNat (j : Int)) (Int.toNat ((j : Int) + 1)); have h2 : (⟨#[120]⟩ : ByteArray).size = 1 := rfl; omega)) rfl rfl rfl ?_
              refine ov (xbuild (vs := [.string (⟨#[120]⟩ ++ (ByteArray.extract ⟨#[97, 98, 99, 100, 101, 102, 103, 104, 105, 106, 107, 108, 109, 110]⟩ (Int.toNat (j : Int)) (Int.toNat ((j : Int) + 1))))]) (cells := #[.string (⟨#[120]⟩ ++ (ByteArray.extract ⟨#[97, 98, 99, 100, 101, 102, 103, 104, 105, 106, 107, 108, 109, 110]⟩ (Int.toNat (j : Int)) (Int.toNat ((j : Int) + 1)))), .string ⟨#[]⟩]) rfl (by kernel_rfl)) rfl rfl rfl ?_
              refine obuild (cs := [.string (⟨#[120]⟩ ++ (ByteArray.extract ⟨#[97, 98, 99, 100, 101, 102, 103, 104, 105, 106, 107, 108, 109, 110]⟩ (Int.toNat (j : Int)) (Int.toNat ((j : Int) + 1)))), .string ⟨#[]⟩]) (sz := 2) Try.underlying25 inf37 rfl rfl (by decide) rfl rfl (by simp [Value.cells]) rfl rfl rfl ?_
              intro b5 w5 e5 hb5 hz5 O5
              have E := E.trans (Mk.ofExt e5)
              replace G_3 := G_3.ext e5
              replace S := S.ext e5
              refine oappT (bytes := 32) (nm := (m_3 + 1)) G_3 rfl rfl elem37 (Own.sl1 (y := (⟨(⟨#[120]⟩ : ByteArray) ++ (ByteArray.extract ⟨#[97, 98, 99, 100, 101, 102, 103, 104, 105, 106, 107, 108, 109, 110]⟩ (Int.toNat (j : Int)) (Int.toNat ((j : Int) + 1))), ⟨#[]⟩⟩ : Val)) O5) (by intro h; cases h) (by intro y hy; rfl) (by intro y hy u hu; rw [List.mem_singleton] at hy; subst hy; revert u; simp [Value.oneCell', Val.cells, strc]) (by omega) (by omega) (by omega) (by omega) rfl rfl ?_
              intro p6 c6_ w6 m6 k6 G6
              have hz6 := m6.size
              have E := E.young m6 (by omega)
              replace S := S.off m6 (by omega)
              try replace O5 := m6.own O5 (by omega)
              refine ov (xassign rfl) rfl rfl rfl ?_
              refine ops_nil ?_
              refine run_inBlock ?_
              refine run_region ?_
              refine ov (xmove rfl) rfl rfl rfl ?_
              refine ov (xadd rfl rfl (by unfold I64; omega)) rfl rfl rfl ?_
              refine ov (xassign rfl) rfl rfl rfl ?_
              refine ops_nil ?_
              refine run_sub ?_ (hback15 (j + 1, p6, (m_3 + 1), c6_, _, w6) (⟨E, S, G6.wide (by omega) (by omega), by omega, by omega, by omega, by omega, ok_app hall2 ⟨by dsimp only; rw [ByteArray.size_append]; have := ext_size ⟨#[97, 98, 99, 100, 101, 102, 103, 104, 105, 106, 107, 108, 109, 110]⟩ (Int.toNat (j : Int)) (Int.toNat ((j : Int) + 1)); have : (⟨#[120]⟩ : ByteArray).size = 1 := rfl; omega, by dsimp only; decide⟩⟩) (by first | omega | (dsimp only; omega)))
              exact ⟨rfl, rfl, rfl, trivial⟩
            ·
              refine ov (xpick_t rfl rfl) rfl rfl rfl ?_
              refine ops_nil ?_
              refine run_cond_f rfl ?_
              refine run_exit rfl ?_
              refine run_inBlock ?_
              refine run_seq ?_
              refine run_region ?_
              refine ov (xmove rfl) rfl rfl rfl ?_
              refine ov (xassign rfl) rfl rfl rfl ?_
              refine ops_nil ?_
              refine run_ret Try.func55 (res1 rfl rfl) ?_
              exact ⟨_, rfl, _, _, _, _, rfl, hall2, by omega, G_3.wide (by omega) (by omega), E, S⟩
          ·
            refine ov (xmove rfl) rfl rfl rfl ?_
            refine og rfl rfl rfl ?_
            refine og rfl rfl rfl ?_
            refine ov (xpick_f rfl rfl) rfl rfl rfl ?_
            refine ops_nil ?_
            refine run_cond_f rfl ?_
            refine run_exit rfl ?_
            refine run_inBlock ?_
            refine run_seq ?_
            refine run_region ?_
            refine ov (xmove rfl) rfl rfl rfl ?_
            refine ov (xassign rfl) rfl rfl rfl ?_
            refine ops_nil ?_
            refine run_ret Try.func55 (res1 rfl rfl) ?_
            exact ⟨_, rfl, _, _, _, _, rfl, hall2, by omega, G_3.wide (by omega) (by omega), E, S⟩
        ·
          refine ov (xassign rfl) rfl rfl rfl ?_
          refine ops_nil ?_
          refine run_cond_f rfl ?_
          refine run_skip ?_
          refine run_inBlock ?_
          refine run_seq ?_
          refine run_region ?_
          refine ov (xmove rfl) rfl rfl rfl ?_
          refine ov (xassign rfl) rfl rfl rfl ?_
          refine ops_nil ?_
          refine run_ret Try.func55 (res1 rfl rfl) ?_
          exact ⟨_, rfl, _, _, _, _, rfl, hall, by omega, G_3.wide (by omega) (by omega), E, S⟩

set_option maxHeartbeats 1000000 in
theorem DrawValueOf_ok (p : Option Addr) (n c : Nat) (bs : List Int) (w : World) (H : Sl u8c 1 w p n c bs) (hbs : ∀ x ∈ bs, 0 ≤ x ∧ x ≤ 255) : Ret Try.prog 26 [.slice p n c] w (fun v w' => Ext w w' ∧ ∃ (xs : List Val) (q : Option Addr) (m d : Nat) (s : ByteArray), v = .tuple #[.slice q m d, .string s] ∧ (∀ x ∈ xs, x.ok) ∧ m ≤ 40 ∧ Ow Val.cells 2 37 w' w.heap.size w'.heap.size q m d xs ∧ s.size ≤ 5) := by
  refine ret_of_run (N := 16) Try.func26 rfl rfl rfl ?_
  have hfar := H.blk (fun x => by simp [u8c])
  have E : Ext w w := Ext.refl w
  refine run_seq ?_
  refine run_region ?_
  refine ov (xassign rfl) rfl rfl rfl ?_
  refine ov (xassign rfl) rfl rfl rfl ?_
  refine ops_nil ?_
  refine run_seq ?_
  refine run_region ?_
  refine ov (xmove rfl) rfl rfl rfl ?_
  refine oc (xcall Try.call54 rfl) rfl rfl rfl (l01From_ok _ _ _ _ _ (H.ext E) (by assumption) w.heap.size hfar (by omega)) ?_
  rintro _ w1 ⟨e1, b7_, rfl, hcb7, S⟩
  have z1 := e1.size
  have E := E.trans e1
  have hcc7 := S.cb
  have hbl7 := S.lt
  refine ov (xassign rfl) rfl rfl rfl ?_
  refine ops_nil ?_
  refine run_seq ?_
  refine run_region ?_
  refine ov (xmove rfl) rfl rfl rfl ?_
  refine oc (xcall Try.call55 rfl) rfl rfl rfl (l28Values_ok b7_ w.heap.size _ S) ?_
  rintro _ w2 ⟨r9_0, r9_1, r9_2, r9_3, rfl, h9_0, h9_1, h9_2, m2, S2⟩
  have z2 := m2.size
  have E := m2.toExt E (by omega)
  replace S := S2
  refine ov (xassign rfl) rfl rfl rfl ?_
  refine ops_nil ?_
  refine run_seq ?_
  refine run_rg (τ := [(4, .pointer (some ⟨b7_, 0, none⟩)), (5, .slice r9_1 r9_2 r9_3)]) 8 [10, 11, 12, 13, 14, 15, 2, 3] (fun u_ => Mk b7_ (b7_ + 1) w2 u_ ∧ Src u_ b7_ w.heap.size) (fun i_ => Mk b7_ (b7_ + 1)) (fun i_ v_ u_ => match i_ with | 0 => v_ = .slice r9_1 r9_2 r9_3 | 1 => ∃ (y0_ : Nat), v_ = .slice (some ⟨y0_, 0, none⟩) 5 5 ∧ w2.heap.size ≤ y0_ ∧ Sl strc 1 u_ (some ⟨y0_, 0, none⟩) 5 5 ([⟨#[106, 117, 100, 103, 101]⟩, ⟨#[100, 97, 121]⟩, ⟨#[99, 114, 105, 109, 101]⟩, ⟨#[110, 111, 110, 101]⟩, ⟨#[]⟩] : List ByteArray) | 2 => v_ = .pointer (some ⟨b7_, 0, none⟩) | 3 => ∃ (y0_ : Int), v_ = .int .i64 y0_ ∧ 0 ≤ y0_ ∧ (y0_ < 5 ∨ y0_ = 0) | 4 => ∃ (y0_ : Nat) (y1_ : Nat) (y2_ : ByteArray), v_ = .pointer (some ⟨y0_, y1_, none⟩) ∧ b7_ < y0_ ∧ Cells u_ y0_ y1_ [.string y2_] ∧ (y2_).size ≤ 5 | 5 => ∃ (y0_ : ByteArray), v_ = .string y0_ ∧ (y0_).size ≤ 5 | 6 => v_ = .slice r9_1 r9_2 r9_3 | 7 => ∃ (y0_ : ByteArray), v_ = .string y0_ ∧ (y0_).size ≤ 5 | _ => True) [(6, some 2), (7, some 3)] (by kernel_rfl) (by kernel_rfl) (by kernel_rfl) (by kernel_rfl) (by kernel_rfl) (by kernel_rfl) ⟨rfl, rfl, trivial⟩ rfl (fun u_ e_ z_ => ⟨Mk.ofExt e_, S.ext e_⟩) ?_ ?_ ?_
  · intro i_ j_ hi_ hj_ hij_ v_ u_ u2_ I_ I2_ r_ g_
    have zu_ := I_.1.size
    clear hi_
    rcases (by omega : j_ = 0 ∨ j_ = 1 ∨ j_ = 2 ∨ j_ = 3 ∨ j_ = 4 ∨ j_ = 5 ∨ j_ = 6 ∨ j_ = 7) with rfl | rfl | rfl | rfl | rfl | rfl | rfl | rfl
    · exact g_
    · obtain ⟨g11_0, rfl, f11_0, f11_1⟩ := g_
      exact ⟨g11_0, rfl, f11_0, f11_1.off r_ (by simp only [pb, Option.getD_some]; omega)⟩
    · exact g_
    · exact g_
    · obtain ⟨g14_0, g14_1, g14_2, rfl, f14_0, f14_1, f14_2⟩ := g_
      exact ⟨g14_0, g14_1, g14_2, rfl, f14_0, r_.cells f14_1 (by omega), f14_2⟩
    · exact g_
    · exact g_
    · exact g_
  ·
    refine rga [] (by kernel_rfl) ?_ ?_
    · intro u_ I_
      have zu_ := I_.1.size
      refine rg_val (xmove rfl) rfl I_ (Mk.refl _ _ _) rfl
    refine rga [] (by kernel_rfl) ?_ ?_
    · intro u_ I_
      have zu_ := I_.1.size
      refine rg_build (len := 5) (vs := [.string ⟨#[106, 117, 100, 103, 101]⟩, .string ⟨#[100, 97, 121]⟩, .string ⟨#[99, 114, 105, 109, 101]⟩, .string ⟨#[110, 111, 110, 101]⟩, .string ⟨#[]⟩]) (cs := [.string ⟨#[106, 117, 100, 103, 101]⟩, .string ⟨#[100, 97, 121]⟩, .string ⟨#[99, 114, 105, 109, 101]⟩, .string ⟨#[110, 111, 110, 101]⟩, .string ⟨#[]⟩]) (sz := 1) Try.underlying48 inf9 rfl rfl (by decide) (by rfl) (by rfl) (by simp [Value.cells]) rfl rfl ?_
      intro b_ w_ e_ hb_ O_
      refine ⟨⟨I_.1.trans (Mk.ofExt e_), I_.2.ext e_⟩, Mk.ofExt e_, ⟨b_, rfl, (by omega), (Own.ow (lo := b_) (hi := b_ + 1) (enc := strc) (sz := 1) (xs := ([⟨#[106, 117, 100, 103, 101]⟩, ⟨#[100, 97, 121]⟩, ⟨#[99, 114, 105, 109, 101]⟩, ⟨#[110, 111, 110, 101]⟩, ⟨#[]⟩] : List ByteArray)) (n := 5) (by simpa [strc] using O_) rfl (by omega) (Nat.le_refl _) (by omega) (by intro x hx; rfl)).sl⟩⟩
    refine rga [] (by kernel_rfl) ?_ ?_
    · intro u_ I_
      have zu_ := I_.1.size
      refine rg_val (xmove rfl) rfl I_ (Mk.refl _ _ _) rfl
    refine rga [(2, some 12)] (by kernel_rfl) ?_ ?_
    · rintro u_ I_ _ rfl
      have zu_ := I_.1.size
      refine rg_call (xcall Try.call56 rfl) rfl (l01Next_ok b7_ w.heap.size (5) _ I_.2) ?_
      rintro _ w_ ⟨r_0, rfl, h_0, h_1, m_, S_⟩
      exact ⟨⟨I_.1.trans m_, S_⟩, m_, ⟨r_0, rfl, h_0, h_1⟩⟩
    refine rga [(1, some 11), (3, some 13)] (by kernel_rfl) ?_ ?_
    · rintro u_ I_ _ ⟨g11_0, rfl, f11_0, f11_1⟩ _ ⟨g13_0, rfl, f13_0, f13_1⟩
      have zu_ := I_.1.size
      have hh_ := (f11_1).at (i := (g13_0).toNat) (by show (g13_0).toNat < 5; omega)
      refine rg_val (xindexN (i := (g13_0).toNat) Try.underlying48 Try.sizeOf9 rfl rfl (by omega) ((f11_1).p (i := (g13_0).toNat) (by show (g13_0).toNat < 5; omega)) (by omega)) rfl I_ (Mk.refl _ _ _) ?_
      exact ⟨_, _, _, rfl, by simp only [pb, Option.getD_some]; omega, hh_, (by decide : ∀ x ∈ ([⟨#[106, 117, 100, 103, 101]⟩, ⟨#[100, 97, 121]⟩, ⟨#[99, 114, 105, 109, 101]⟩, ⟨#[110, 111, 110, 101]⟩, ⟨#[]⟩] : List ByteArray), x.size ≤ 5) _ (List.getElem_mem _)⟩
    refine rga [(4, some 14)] (by kernel_rfl) ?_ ?_
    · rintro u_ I_ _ ⟨g14_0, g14_1, g14_2, rfl, f14_0, f14_1, f14_2⟩
      have zu_ := I_.1.size
      refine rg_val (xloadz Try.isAgg9 rfl f14_1 rfl) rfl I_ (Mk.refl _ _ _) ⟨g14_2, rfl, f14_2⟩
    refine rga [(0, some 10)] (by kernel_rfl) ?_ ?_
    · rintro u_ I_ _ rfl
      have zu_ := I_.1.size
      refine rg_val (xassign rfl) rfl I_ (Mk.refl _ _ _) rfl
    refine rga [(5, some 15)] (by kernel_rfl) ?_ ?_
    · rintro u_ I_ _ ⟨g15_0, rfl, f15_0⟩
      have zu_ := I_.1.size
      refine rg_val (xassign rfl) rfl I_ (Mk.refl _ _ _) ⟨g15_0, rfl, f15_0⟩
    exact rga_nil
  ·
    rintro w3 I_ _ rfl _ ⟨g3_0, rfl, f3_0⟩
    have m3 := I_.1
    have z3 := m3.size
    have E := m3.toExt E (by omega)
    replace S := I_.2
    replace h9_2 := h9_2.off m3 (by omega)
    refine ops_nil ?_
    refine run_ret Try.func26 (res2 rfl rfl rfl) ?_
    exact ⟨_, rfl, E, _, _, _, _, _, rfl, h9_0, by omega, h9_2.wide (by omega) (by omega), f3_0⟩

set_option maxHeartbeats 1000000 in
theorem DrawSetValue_ok (p : Option Addr) (n c : Nat) (bs : List Int) (w : World) (H : Sl u8c 1 w p n c bs) (hbs : ∀ x ∈ bs, 0 ≤ x ∧ x ≤ 255) : Ret Try.prog 25 [.slice p n c] w (fun v w' => Ext w w' ∧ ∃ (xs : List Val) (q : Option Addr) (m d : Nat) (r : Val), v = .tuple #[.slice q m d, .agg #[.string r.Name, .string r.Text]] ∧ (∀ x ∈ xs, x.ok) ∧ m ≤ 40 ∧ Ow Val.cells 2 37 w' w.heap.size w'.heap.size q m d xs ∧ r.ok) := by
  refine ret_of_run (N := 22) Try.func25 rfl rfl rfl ?_
  have hfar := H.blk (fun x => by simp [u8c])
  have E : Ext w w := Ext.refl w
  refine run_seq ?_
  refine run_region ?_
  refine ov (xassign rfl) rfl rfl rfl ?_
  refine oalloc Try.zeroValue37 rfl rfl ?_
  intro b1 w1 e1 hb1 hz1 O1
  have E := E.trans e1
  replace O1 : Own w1 b1 [.string ⟨#[]⟩, .string ⟨#[]⟩] 37 := O1
  refine ops_nil ?_
  refine run_seq ?_
  refine run_region ?_
  refine ov (xmove rfl) rfl rfl rfl ?_
  refine oc (xcall Try.call54 rfl) rfl rfl rfl (l01From_ok _ _ _ _ _ (H.ext E) (by assumption) w.heap.size hfar (by omega)) ?_
  rintro _ w2 ⟨e2, b7_, rfl, hcb7, S⟩
  have z2 := e2.size
  have E := E.trans e2
  replace O1 := O1.ext e2
  have hcc7 := S.cb
  have hbl7 := S.lt
  refine ov (xassign rfl) rfl rfl rfl ?_
  refine ops_nil ?_
  refine run_seq ?_
  refine run_region ?_
  refine ov (xmove rfl) rfl rfl rfl ?_
  refine oc (xcall Try.call55 rfl) rfl rfl rfl (l28Values_ok b7_ w.heap.size _ S) ?_
  rintro _ w3 ⟨r9_0, r9_1, r9_2, r9_3, rfl, h9_0, h9_1, h9_2, m3, S3⟩
  have z3 := m3.size
  have E := m3.toExt E (by omega)
  replace O1 := m3.own O1 (by omega)
  replace S := S3
  refine ov (xassign rfl) rfl rfl rfl ?_
  refine ops_nil ?_
  refine run_seq ?_
  refine run_rg (τ := [(3, .pointer (some ⟨b1, 0, none⟩)), (4, .pointer (some ⟨b7_, 0, none⟩)), (5, .slice r9_1 r9_2 r9_3)]) 14 [10, 11, 12, 13, 14, 15, 16, 17, 18, 19, 20, 21, 2] (fun u_ => Mk b1 (b7_ + 1) w3 u_ ∧ Src u_ b7_ w.heap.size ∧ ∃ cs_ : List Value, cs_.length = 2 ∧ Own u_ b1 cs_ 37) (fun i_ => if i_ = 13 then Mk b1 (b1 + 1) else Mk b7_ (b7_ + 1)) (fun i_ v_ u_ => match i_ with | 0 => v_ = .slice r9_1 r9_2 r9_3 | 1 => ∃ (y0_ : Nat), v_ = .slice (some ⟨y0_, 0, none⟩) 4 4 ∧ w3.heap.size ≤ y0_ ∧ Sl strc 1 u_ (some ⟨y0_, 0, none⟩) 4 4 ([⟨#[106, 117, 100, 103, 101]⟩, ⟨#[112, 108, 101, 97]⟩, ⟨#[68, 97, 121]⟩, ⟨#[99, 114, 105, 109, 101]⟩] : List ByteArray) | 2 => v_ = .pointer (some ⟨b7_, 0, none⟩) | 3 => ∃ (y0_ : Int), v_ = .int .i64 y0_ ∧ 0 ≤ y0_ ∧ (y0_ < 4 ∨ y0_ = 0) | 4 => ∃ (y0_ : Nat) (y1_ : Nat) (y2_ : ByteArray), v_ = .pointer (some ⟨y0_, y1_, none⟩) ∧ b7_ < y0_ ∧ Cells u_ y0_ y1_ [.string y2_] ∧ (y2_).size ≤ 5 | 5 => ∃ (y0_ : ByteArray), v_ = .string y0_ ∧ (y0_).size ≤ 5 | 6 => ∃ (y0_ : Nat), v_ = .slice (some ⟨y0_, 0, none⟩) 4 4 ∧ w3.heap.size ≤ y0_ ∧ Sl strc 1 u_ (some ⟨y0_, 0, none⟩) 4 4 ([⟨#[84, 97, 108]⟩, ⟨#[]⟩, ⟨#[120, 123]⟩, ⟨#[110, 111]⟩] : List ByteArray) | 7 => v_ = .pointer (some ⟨b7_, 0, none⟩) | 8 => ∃ (y0_ : Int), v_ = .int .i64 y0_ ∧ 0 ≤ y0_ ∧ (y0_ < 4 ∨ y0_ = 0) | 9 => ∃ (y0_ : Nat) (y1_ : Nat) (y2_ : ByteArray), v_ = .pointer (some ⟨y0_, y1_, none⟩) ∧ b7_ < y0_ ∧ Cells u_ y0_ y1_ [.string y2_] ∧ (y2_).size ≤ 3 | 10 => ∃ (y0_ : ByteArray), v_ = .string y0_ ∧ (y0_).size ≤ 3 | 11 => ∃ (y0_ : ByteArray) (y1_ : ByteArray), v_ = .agg #[.string y0_, .string y1_] ∧ (y0_).size ≤ 5 ∧ (y1_).size ≤ 3 | 12 => v_ = .slice r9_1 r9_2 r9_3 | 13 => ∃ (y0_ : ByteArray) (y1_ : ByteArray), Own u_ b1 [.string y0_, .string y1_] 37 ∧ (y0_).size ≤ 5 ∧ (y1_).size ≤ 3 | _ => True) [(12, some 2), (13, none)] (by kernel_rfl) (by kernel_rfl) (by kernel_rfl) (by kernel_rfl) (by kernel_rfl) (by kernel_rfl) ⟨rfl, rfl, rfl, trivial⟩ rfl (fun u_ e_ z_ => ⟨Mk.ofExt e_, S.ext e_, ⟨_, rfl, O1.ext e_⟩⟩) ?_ ?_ ?_
  · intro i_ j_ hi_ hj_ hij_ v_ u_ u2_ I_ I2_ r_ g_
    have zu_ := I_.1.size
    have rw_ : Mk b1 (b7_ + 1) u_ u2_ := by
      by_cases h_ : i_ = 13
      · simp only [h_, if_true] at r_; exact r_.wide (by omega) (by omega)
      · simp only [h_, if_false] at r_; exact r_.wide (by omega) (by omega)
    have rs_ : i_ ≠ 13 → Mk b7_ (b7_ + 1) u_ u2_ := fun h_ => by simp only [h_, if_false] at r_; exact r_
    clear hi_
    rcases (by omega : j_ = 0 ∨ j_ = 1 ∨ j_ = 2 ∨ j_ = 3 ∨ j_ = 4 ∨ j_ = 5 ∨ j_ = 6 ∨ j_ = 7 ∨ j_ = 8 ∨ j_ = 9 ∨ j_ = 10 ∨ j_ = 11 ∨ j_ = 12 ∨ j_ = 13) with rfl | rfl | rfl | rfl | rfl | rfl | rfl | rfl | rfl | rfl | rfl | rfl | rfl | rfl
    · exact g_
    · obtain ⟨g11_0, rfl, f11_0, f11_1⟩ := g_
      exact ⟨g11_0, rfl, f11_0, f11_1.off rw_ (by simp only [pb, Option.getD_some]; omega)⟩
    · exact g_
    · exact g_
    · obtain ⟨g14_0, g14_1, g14_2, rfl, f14_0, f14_1, f14_2⟩ := g_
      exact ⟨g14_0, g14_1, g14_2, rfl, f14_0, rw_.cells f14_1 (by omega), f14_2⟩
    · exact g_
    · obtain ⟨g16_0, rfl, f16_0, f16_1⟩ := g_
      exact ⟨g16_0, rfl, f16_0, f16_1.off rw_ (by simp only [pb, Option.getD_some]; omega)⟩
    · exact g_
    · exact g_
    · obtain ⟨g19_0, g19_1, g19_2, rfl, f19_0, f19_1, f19_2⟩ := g_
      exact ⟨g19_0, g19_1, g19_2, rfl, f19_0, rw_.cells f19_1 (by omega), f19_2⟩
    · exact g_
    · exact g_
    · exact g_
    · obtain ⟨g913_0, g913_1, f913_0, f913_1, f913_2⟩ := g_
      exact ⟨g913_0, g913_1, (rs_ hij_).own f913_0 (by omega), f913_1, f913_2⟩
  ·
    refine rga [] (by kernel_rfl) ?_ ?_
    · intro u_ I_
      have zu_ := I_.1.size
      refine rg_val (xmove rfl) rfl I_ (by simpa using Mk.refl _ _ _) rfl
    refine rga [] (by kernel_rfl) ?_ ?_
    · intro u_ I_
      have zu_ := I_.1.size
      refine rg_build (len := 4) (vs := [.string ⟨#[106, 117, 100, 103, 101]⟩, .string ⟨#[112, 108, 101, 97]⟩, .string ⟨#[68, 97, 121]⟩, .string ⟨#[99, 114, 105, 109, 101]⟩]) (cs := [.string ⟨#[106, 117, 100, 103, 101]⟩, .string ⟨#[112, 108, 101, 97]⟩, .string ⟨#[68, 97, 121]⟩, .string ⟨#[99, 114, 105, 109, 101]⟩]) (sz := 1) Try.underlying48 inf9 rfl rfl (by decide) (by rfl) (by rfl) (by simp [Value.cells]) rfl rfl ?_
      intro b_ w_ e_ hb_ O_
      refine ⟨⟨I_.1.trans (Mk.ofExt e_), I_.2.1.ext e_, (let ⟨cs_, hl_, ho_⟩ := I_.2.2; ⟨cs_, hl_, ho_.ext e_⟩)⟩, (by simpa using Mk.ofExt e_), ⟨b_, rfl, (by omega), (Own.ow (lo := b_) (hi := b_ + 1) (enc := strc) (sz := 1) (xs := ([⟨#[106, 117, 100, 103, 101]⟩, ⟨#[112, 108, 101, 97]⟩, ⟨#[68, 97, 121]⟩, ⟨#[99, 114, 105, 109, 101]⟩] : List ByteArray)) (n := 4) (by simpa [strc] using O_) rfl (by omega) (Nat.le_refl _) (by omega) (by intro x hx; rfl)).sl⟩⟩
    refine rga [] (by kernel_rfl) ?_ ?_
    · intro u_ I_
      have zu_ := I_.1.size
      refine rg_val (xmove rfl) rfl I_ (by simpa using Mk.refl _ _ _) rfl
    refine rga [(2, some 12)] (by kernel_rfl) ?_ ?_
    · rintro u_ I_ _ rfl
      have zu_ := I_.1.size
      refine rg_call (xcall Try.call56 rfl) rfl (l01Next_ok b7_ w.heap.size (4) _ I_.2.1) ?_
      rintro _ w_ ⟨r_0, rfl, h_0, h_1, m_, S_⟩
      exact ⟨⟨I_.1.trans (m_.wide (by omega) (by omega)), S_, (let ⟨cs_, hl_, ho_⟩ := I_.2.2; ⟨cs_, hl_, m_.own ho_ (by omega)⟩)⟩, (by simpa using m_), ⟨r_0, rfl, h_0, h_1⟩⟩
    refine rga [(1, some 11), (3, some 13)] (by kernel_rfl) ?_ ?_
    · rintro u_ I_ _ ⟨g11_0, rfl, f11_0, f11_1⟩ _ ⟨g13_0, rfl, f13_0, f13_1⟩
      have zu_ := I_.1.size
      have hh_ := (f11_1).at (i := (g13_0).toNat) (by show (g13_0).toNat < 4; omega)
      refine rg_val (xindexN (i := (g13_0).toNat) Try.underlying48 Try.sizeOf9 rfl rfl (by omega) ((f11_1).p (i := (g13_0).toNat) (by show (g13_0).toNat < 4; omega)) (by omega)) rfl I_ (by simpa using Mk.refl _ _ _) ?_
      exact ⟨_, _, _, rfl, by simp only [pb, Option.getD_some]; omega, hh_, (by decide : ∀ x ∈ ([⟨#[106, 117, 100, 103, 101]⟩, ⟨#[112, 108, 101, 97]⟩, ⟨#[68, 97, 121]⟩, ⟨#[99, 114, 105, 109, 101]⟩] : List ByteArray), x.size ≤ 5) _ (List.getElem_mem _)⟩
    refine rga [(4, some 14)] (by kernel_rfl) ?_ ?_
    · rintro u_ I_ _ ⟨g14_0, g14_1, g14_2, rfl, f14_0, f14_1, f14_2⟩
      have zu_ := I_.1.size
      refine rg_val (xloadz Try.isAgg9 rfl f14_1 rfl) rfl I_ (by simpa using Mk.refl _ _ _) ⟨g14_2, rfl, f14_2⟩
    refine rga [] (by kernel_rfl) ?_ ?_
    · intro u_ I_
      have zu_ := I_.1.size
      refine rg_build (len := 4) (vs := [.string ⟨#[84, 97, 108]⟩, .string ⟨#[]⟩, .string ⟨#[120, 123]⟩, .string ⟨#[110, 111]⟩]) (cs := [.string ⟨#[84, 97, 108]⟩, .string ⟨#[]⟩, .string ⟨#[120, 123]⟩, .string ⟨#[110, 111]⟩]) (sz := 1) Try.underlying48 inf9 rfl rfl (by decide) (by rfl) (by rfl) (by simp [Value.cells]) rfl rfl ?_
      intro b_ w_ e_ hb_ O_
      refine ⟨⟨I_.1.trans (Mk.ofExt e_), I_.2.1.ext e_, (let ⟨cs_, hl_, ho_⟩ := I_.2.2; ⟨cs_, hl_, ho_.ext e_⟩)⟩, (by simpa using Mk.ofExt e_), ⟨b_, rfl, (by omega), (Own.ow (lo := b_) (hi := b_ + 1) (enc := strc) (sz := 1) (xs := ([⟨#[84, 97, 108]⟩, ⟨#[]⟩, ⟨#[120, 123]⟩, ⟨#[110, 111]⟩] : List ByteArray)) (n := 4) (by simpa [strc] using O_) rfl (by omega) (Nat.le_refl _) (by omega) (by intro x hx; rfl)).sl⟩⟩
    refine rga [] (by kernel_rfl) ?_ ?_
    · intro u_ I_
      have zu_ := I_.1.size
      refine rg_val (xmove rfl) rfl I_ (by simpa using Mk.refl _ _ _) rfl
    refine rga [(7, some 17)] (by kernel_rfl) ?_ ?_
    · rintro u_ I_ _ rfl
      have zu_ := I_.1.size
      refine rg_call (xcall Try.call56 rfl) rfl (l01Next_ok b7_ w.heap.size (4) _ I_.2.1) ?_
      rintro _ w_ ⟨r_0, rfl, h_0, h_1, m_, S_⟩
      exact ⟨⟨I_.1.trans (m_.wide (by omega) (by omega)), S_, (let ⟨cs_, hl_, ho_⟩ := I_.2.2; ⟨cs_, hl_, m_.own ho_ (by omega)⟩)⟩, (by simpa using m_), ⟨r_0, rfl, h_0, h_1⟩⟩
    refine rga [(6, some 16), (8, some 18)] (by kernel_rfl) ?_ ?_
    · rintro u_ I_ _ ⟨g16_0, rfl, f16_0, f16_1⟩ _ ⟨g18_0, rfl, f18_0, f18_1⟩
      have zu_ := I_.1.size
      have hh_ := (f16_1).at (i := (g18_0).toNat) (by show (g18_0).toNat < 4; omega)
      refine rg_val (xindexN (i := (g18_0).toNat) Try.underlying48 Try.sizeOf9 rfl rfl (by omega) ((f16_1).p (i := (g18_0).toNat) (by show (g18_0).toNat < 4; omega)) (by omega)) rfl I_ (by simpa using Mk.refl _ _ _) ?_
      exact ⟨_, _, _, rfl, by simp only [pb, Option.getD_some]; omega, hh_, (by decide : ∀ x ∈ ([⟨#[84, 97, 108]⟩, ⟨#[]⟩, ⟨#[120, 123]⟩, ⟨#[110, 111]⟩] : List ByteArray), x.size ≤ 3) _ (List.getElem_mem _)⟩
    refine rga [(9, some 19)] (by kernel_rfl) ?_ ?_
    · rintro u_ I_ _ ⟨g19_0, g19_1, g19_2, rfl, f19_0, f19_1, f19_2⟩
      have zu_ := I_.1.size
      refine rg_val (xloadz Try.isAgg9 rfl f19_1 rfl) rfl I_ (by simpa using Mk.refl _ _ _) ⟨g19_2, rfl, f19_2⟩
    refine rga [(5, some 15), (10, some 20)] (by kernel_rfl) ?_ ?_
    · rintro u_ I_ _ ⟨g15_0, rfl, f15_0⟩ _ ⟨g20_0, rfl, f20_0⟩
      have zu_ := I_.1.size
      refine rg_val (xbuild (vs := [.string g15_0, .string g20_0]) (cells := #[.string g15_0, .string g20_0]) rfl (by kernel_rfl)) rfl I_ (by simpa using Mk.refl _ _ _) ⟨g15_0, g20_0, rfl, f15_0, f20_0⟩
    refine rga [(0, some 10)] (by kernel_rfl) ?_ ?_
    · rintro u_ I_ _ rfl
      have zu_ := I_.1.size
      refine rg_val (xassign rfl) rfl I_ (by simpa using Mk.refl _ _ _) rfl
    refine rga [(11, some 21)] (by kernel_rfl) ?_ ?_
    · rintro u_ I_ _ ⟨g21_0, g21_1, rfl, f21_0, f21_1⟩
      have zu_ := I_.1.size
      obtain ⟨I1_, I2_, cs_, hl_, ho_⟩ := I_
      refine rg_storeN (vs := [.string g21_0, .string g21_1]) Try.sizeOf37 rfl rfl ho_ rfl hl_ (by simp [Value.oneCell']) rfl ?_
      intro w_ on_ o_
      refine ⟨⟨I1_.trans (Mk.ofOnly on_ (by omega) (by omega)), I2_.off (Mk.ofOnly on_ (Nat.le_refl _) (Nat.lt_succ_self _)) (by omega), ⟨_, rfl, o_⟩⟩, (by simpa using Mk.ofOnly on_ (Nat.le_refl _) (Nat.lt_succ_self _)), ⟨g21_0, g21_1, o_, f21_0, f21_1⟩⟩
    exact rga_nil
  ·
    rintro w4 I_ _ rfl _ ⟨g913_0, g913_1, f913_0, f913_1, f913_2⟩
    have m4 := I_.1
    have z4 := m4.size
    have E := m4.toExt E (by omega)
    replace S := I_.2.1
    replace h9_2 := h9_2.off m4 (by omega)
    refine ops_nil ?_
    refine run_ret Try.func25 (rescT rfl rfl rfl (run_loadVar_cells Try.isAgg37 Try.sizeOf37 f913_0.cells rfl)) ?_
    exact ⟨_, rfl, E, _, _, _, _, ⟨g913_0, g913_1⟩, rfl, h9_0, by omega, h9_2.wide (by omega) (by omega), by constructor <;> (dsimp only; omega)⟩
end Go.Proofs.Ytgbedilaiefcbaa
