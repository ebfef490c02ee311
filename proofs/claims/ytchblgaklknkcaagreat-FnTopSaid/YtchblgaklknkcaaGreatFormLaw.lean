/-
  The walk of the law on forms. No condition beyond those written in each theorem.
-/
import Derived.Test.YtchblgaklknkcaaGreatDraw
import Derived.Test.YtchblgaklknkcaaGreatForm
import Derived.Test.YtchblgaklknkcaaGreatTidy
import Derived.Test.YtchblgaklknkcaaGreatPollP
namespace Go.Proofs.YtchblgaklknkcaaGreat
open Go.RowKit
set_option linter.unusedVariables false
set_option linter.unusedSimpArgs false
set_option linter.unusedSectionVars false
set_option maxRecDepth 4000
theorem ok_app {α : Type} {q : α → Prop} {xs : List α} {y : α} (h : ∀ x ∈ xs, q x) (hy : q y) : ∀ x ∈ xs ++ [y], q x := fun x m => by
  rcases List.mem_append.1 m with m | m
  · exact h x m
  · rw [List.mem_singleton] at m; subst m; exact hy
set_option maxHeartbeats 2000000 in
theorem l26Good_ok (b cb : Nat) (w : World) (S : Src w b cb) : Ret Tryz.prog 58 [.pointer (some ⟨b, 0, none⟩)] w (fun v w' => ∃ (xs : List Question) (q : Option Addr) (m d : Nat), v = .slice q m d ∧ (∀ x ∈ xs, x.Label.size ≤ 100) ∧ (1 ≤ m ∧ m ≤ 6) ∧ Ow Question.cells 3 99 w' w.heap.size w'.heap.size q m d xs ∧ Mk b (b + 1) w w' ∧ Src w' b cb) := by
 refine ret_of_run (N := 72) Tryz.func58 rfl rfl rfl ?_
 have hbl := S.lt
 have hcb := S.cb
 have E : Mk b (b + 1) w w := Mk.refl _ _ _
 refine sr_ ?_
 refine vn_ rfl rfl rfl ?_
 refine sr_ ?_
 refine obuild (cs := [.string ⟨#[97, 99, 116]⟩, .string ⟨#[105, 110, 116, 101, 110, 116]⟩, .string ⟨#[104, 97, 114, 109]⟩, .string ⟨#[100, 101, 102, 101, 110, 99, 101]⟩, .string ⟨#[101, 120, 99, 117, 115, 101]⟩, .string ⟨#[112, 108, 97, 110]⟩]) (sz := 1) Tryz.underlying28 inf9 rfl rfl (by decide) rfl rfl (by simp [Value.cells]) rfl rfl rfl ?_
 intro b1 w1 e1 hb1 hz1 O1
 have E := E.trans (Mk.ofExt e1)
 replace S := S.ext e1
 have G1 : Ow strc 1 9 w1 b1 (b1 + 1) (some ⟨b1, 0, none⟩) 6 6 ([⟨#[97, 99, 116]⟩, ⟨#[105, 110, 116, 101, 110, 116]⟩, ⟨#[104, 97, 114, 109]⟩, ⟨#[100, 101, 102, 101, 110, 99, 101]⟩, ⟨#[101, 120, 99, 117, 115, 101]⟩, ⟨#[112, 108, 97, 110]⟩] : List ByteArray) := Own.ow (by simpa [Question.cells, strc] using O1) rfl (by omega) (Nat.le_refl _) (by omega) (by intro x hx; rfl)
 refine vn_ rfl rfl rfl ?_
 refine sr_ ?_
 refine vm_ rfl rfl rfl ?_
 refine oc (xcall Tryz.call60 rfl) rfl rfl rfl (l01Next_ok b cb (6) _ S) ?_
 rintro _ w2 ⟨r10_0, rfl, h10_0, h10_1, m2, S2⟩
 have z2 := m2.size
 have E := E.trans m2
 replace G1 := G1.off m2 (by omega)
 replace S := S2
 refine oz_ (xadd rfl rfl (by unfold I64; omega)) rfl rfl ?_
 refine vn_ rfl rfl rfl ?_
 refine sr_ ?_
 refine obuild (cs := []) (sz := 3) Tryz.underlying35 inf99 rfl rfl (by decide) rfl rfl (by simp [Value.cells]) rfl rfl rfl ?_
 intro b3 w3 e3 hb3 hz3 O3
 have E := E.trans (Mk.ofExt e3)
 replace S := S.ext e3
 replace G1 := G1.ext e3
 have G3 : Ow Question.cells 3 99 w3 b3 (b3 + 1) (some ⟨b3, 0, none⟩) 0 0 ([] : List Question) := Own.ow (by simpa [Question.cells, strc] using O3) rfl (by omega) (Nat.le_refl _) (by omega) (by intro x hx; rfl)
 refine vn_ rfl rfl rfl ?_
 refine run_seq ?_
 refine sr_ ?_
 refine vn_ rfl rfl rfl ?_
 refine run_block ?_
 refine run_loop (ι := Nat × Option Addr × Nat × Nat × List Question × World) (fun x_ => match x_ with | (k, q_5, m_5, c_5, ys_5, wr) => (Mk b (b + 1) w wr) ∧ (Src wr b cb) ∧ (Ow strc 1 9 wr b1 (b1 + 1) (some ⟨b1, 0, none⟩) 6 6 ([⟨#[97, 99, 116]⟩, ⟨#[105, 110, 116, 101, 110, 116]⟩, ⟨#[104, 97, 114, 109]⟩, ⟨#[100, 101, 102, 101, 110, 99, 101]⟩, ⟨#[101, 120, 99, 117, 115, 101]⟩, ⟨#[112, 108, 97, 110]⟩] : List ByteArray)) ∧ (Ow Question.cells 3 99 wr b3 wr.heap.size q_5 m_5 c_5 ys_5) ∧ (b3 ≤ wr.heap.size) ∧ (w3.heap.size ≤ wr.heap.size) ∧ ((k : Int) ≤ 1 + r10_0) ∧ (m_5 = k) ∧ (∀ x ∈ ys_5, x.Label.size ≤ 100)) (fun x_ => match x_ with | (k, q_5, m_5, c_5, ys_5, wr) => [(0, .pointer (some ⟨b, 0, none⟩)), (3, .slice (some ⟨b1, 0, none⟩) 6 6), (4, .int .i64 (1 + r10_0)), (5, .slice q_5 m_5 c_5), (6, .int .i64 (k : Int))]) (fun x_ => match x_ with | (k, q_5, m_5, c_5, ys_5, wr) => wr) (fun x_ => match x_ with | (k, q_5, m_5, c_5, ys_5, wr) => (1 + r10_0 - k).toNat) ?_ (0, (some ⟨b3, 0, none⟩), 0, 0, [], w3) (⟨E, S, G1, G3.wide (by omega) (by omega), by omega, Nat.le_refl _, by omega, rfl, by intro x hx; cases hx⟩) ⟨rfl, rfl, rfl, rfl, rfl, trivial⟩ rfl
 intro i_ hI_ hback5
 obtain ⟨k, q_5, m_5, c_5, ys_5, wr⟩ := i_
 obtain ⟨E, S, G1, G_5, lo_5, lz_wr, hk, hm5, hall⟩ := hI_
 try dsimp only
 have zr := E.size
 have lg_5 := G_5.len
 refine run_seq ?_
 refine sr_ ?_
 refine vm_ rfl rfl rfl ?_
 refine vm_ rfl rfl rfl ?_
 refine oz_ (xlss rfl rfl _ rfl) rfl rfl ?_
 refine ods (fun c15 => ?_) (fun c15 => ?_)
 rotate_left
 ·
  refine cg_ rfl ?_
  refine run_exit rfl ?_
  refine sr_ ?_
  refine vm_ rfl rfl rfl ?_
  refine vn_ rfl rfl rfl ?_
  refine run_ret Tryz.func58 (res1 rfl rfl) ?_
  exact ⟨_, rfl, _, _, _, _, rfl, hall, by omega, G_5.wide (by omega) (by omega), E, S⟩
 refine ct_ rfl ?_
 refine run_skip ?_
 refine run_seq ?_
 refine run_block ?_
 refine run_seq ?_
 refine run_rg (τ := [(0, .pointer (some ⟨b, 0, none⟩)), (3, .slice (some ⟨b1, 0, none⟩) 6 6), (4, .int .i64 (1 + r10_0)), (5, .slice q_5 m_5 c_5), (6, .int .i64 (k : Int))]) 12 [18, 19, 20, 21, 22, 23, 24, 25, 26, 27, 28, 7] (fun u_ => Mk b (b + 1) wr u_ ∧ Src u_ b cb) (fun i_ => Mk b (b + 1)) (fun i_ v_ u_ => match i_ with | 0 => v_ = .slice (some ⟨b1, 0, none⟩) 6 6 | 1 => v_ = .int .i64 (k : Int) | 2 => ∃ (y0_ : Nat) (y1_ : Nat) (y2_ : ByteArray), v_ = .pointer (some ⟨y0_, y1_, none⟩) ∧ (b < y0_) ∧ (Cells u_ y0_ y1_ [.string y2_]) ∧ ((y2_).size ≤ 7) | 3 => ∃ (y0_ : ByteArray), v_ = .string y0_ ∧ ((y0_).size ≤ 7) | 4 => v_ = .pointer (some ⟨b, 0, none⟩) | 5 => ∃ (y0_ : Int), v_ = .int .i64 y0_ ∧ (0 ≤ y0_) ∧ ((y0_ < 3 ∨ y0_ = 0)) | 6 => ∃ (y0_ : Int), v_ = .int .i64 ((-1) - y0_) ∧ (0 ≤ y0_) ∧ ((y0_ < 3 ∨ y0_ = 0)) | 7 => v_ = .pointer (some ⟨b, 0, none⟩) | 8 => ∃ (y0_ : Int), v_ = .int .i64 y0_ ∧ (0 ≤ y0_) ∧ ((y0_ < 3 ∨ y0_ = 0)) | 9 => ∃ (y0_ : Int), v_ = .int .i64 ((-1) - y0_) ∧ (0 ≤ y0_) ∧ ((y0_ < 3 ∨ y0_ = 0)) | 10 => ∃ (y0_ : ByteArray) (y1_ : Int) (y2_ : Int), v_ = .agg #[.string y0_, .int .i64 ((-1) - y1_), .int .i64 ((-1) - y2_)] ∧ ((y0_).size ≤ 7) ∧ (0 ≤ y1_) ∧ ((y1_ < 3 ∨ y1_ = 0)) ∧ (0 ≤ y2_) ∧ ((y2_ < 3 ∨ y2_ = 0)) | 11 => ∃ (y0_ : Nat), v_ = .pointer (some ⟨y0_, 0, none⟩) ∧ (wr.heap.size ≤ y0_) ∧ (Own u_ y0_ [.string ⟨#[]⟩, .int .i64 0, .int .i64 0] 99) | _ => True) [(10, some 28), (11, some 7)] (by kernel_rfl) (by kernel_rfl) (by kernel_rfl) (by kernel_rfl) (by kernel_rfl) (by kernel_rfl) ⟨rfl, rfl, rfl, rfl, rfl, trivial⟩ rfl (fun u_ e_ z_ => ⟨Mk.ofExt e_, S.ext e_⟩) ?_ ?_ ?_
 ·
  intro i_ j_ hi_ hj_ hij_ v_ u_ u2_ I_ I2_ r_ g_
  have zu_ := I_.1.size
  clear hi_
  rcases (by omega : j_ = 0 ∨ j_ = 1 ∨ j_ = 2 ∨ j_ = 3 ∨ j_ = 4 ∨ j_ = 5 ∨ j_ = 6 ∨ j_ = 7 ∨ j_ = 8 ∨ j_ = 9 ∨ j_ = 10 ∨ j_ = 11) with rfl | rfl | rfl | rfl | rfl | rfl | rfl | rfl | rfl | rfl | rfl | rfl
  ·
   exact g_
  ·
   exact g_
  ·
   obtain ⟨g20_0, g20_1, g20_2, rfl, f20_0, f20_1, f20_2⟩ := g_
   exact ⟨g20_0, g20_1, g20_2, rfl, f20_0, r_.cells f20_1 (by omega), f20_2⟩
  ·
   exact g_
  ·
   exact g_
  ·
   exact g_
  ·
   exact g_
  ·
   exact g_
  ·
   exact g_
  ·
   exact g_
  ·
   exact g_
  obtain ⟨g7_0, rfl, f7_0, f7_1⟩ := g_
  exact ⟨g7_0, rfl, f7_0, r_.own f7_1 (by omega)⟩
 ·
  refine rga [] (by kernel_rfl) ?_ ?_
  ·
   intro u_ I_
   have zu_ := I_.1.size
   refine rg_val (xmove rfl) rfl I_ (Mk.refl _ _ _) rfl
  refine rga [] (by kernel_rfl) ?_ ?_
  ·
   intro u_ I_
   have zu_ := I_.1.size
   refine rg_val (xmove rfl) rfl I_ (Mk.refl _ _ _) rfl
  refine rga [(0, some 18), (1, some 19)] (by kernel_rfl) ?_ ?_
  ·
   rintro u_ I_ _ rfl _ rfl
   have zu_ := I_.1.size
   have G1 := G1.off I_.1 (by omega)
   have hh_ := (G1.sl).at (i := k) (by show k < 6; omega)
   refine rg_val (xindexN (i := k) Tryz.underlying28 Tryz.sizeOf9 rfl rfl rfl ((G1.sl).p (i := k) (by show k < 6; omega)) (by omega)) rfl I_ (Mk.refl _ _ _) ?_
   exact ⟨_, _, _, rfl, by simp only [pb, Option.getD_some]; omega, hh_, (by decide : ∀ x ∈ ([⟨#[97, 99, 116]⟩, ⟨#[105, 110, 116, 101, 110, 116]⟩, ⟨#[104, 97, 114, 109]⟩, ⟨#[100, 101, 102, 101, 110, 99, 101]⟩, ⟨#[101, 120, 99, 117, 115, 101]⟩, ⟨#[112, 108, 97, 110]⟩] : List ByteArray), x.size ≤ 7) _ (List.getElem_mem _)⟩
  refine rga [(2, some 20)] (by kernel_rfl) ?_ ?_
  ·
   rintro u_ I_ _ ⟨g20_0, g20_1, g20_2, rfl, f20_0, f20_1, f20_2⟩
   have zu_ := I_.1.size
   refine rg_val (xloadz Tryz.isAgg9 rfl f20_1 rfl) rfl I_ (Mk.refl _ _ _) ⟨g20_2, rfl, f20_2⟩
  refine rga [] (by kernel_rfl) ?_ ?_
  ·
   intro u_ I_
   have zu_ := I_.1.size
   refine rg_val (xmove rfl) rfl I_ (Mk.refl _ _ _) rfl
  refine rga [(4, some 22)] (by kernel_rfl) ?_ ?_
  ·
   rintro u_ I_ _ rfl
   have zu_ := I_.1.size
   refine rg_call (xcall Tryz.call60 rfl) rfl (l01Next_ok b cb (3) _ I_.2) ?_
   rintro _ w_ ⟨r_0, rfl, h_0, h_1, m_, S_⟩
   exact ⟨⟨I_.1.trans m_, S_⟩, m_, ⟨r_0, rfl, h_0, h_1⟩⟩
  refine rga [(5, some 23)] (by kernel_rfl) ?_ ?_
  ·
   rintro u_ I_ _ ⟨g23_0, rfl, f23_0, f23_1⟩
   have zu_ := I_.1.size
   refine rg_val (xsub rfl rfl (by unfold I64; omega)) rfl I_ (Mk.refl _ _ _) ⟨g23_0, rfl, f23_0, f23_1⟩
  refine rga [] (by kernel_rfl) ?_ ?_
  ·
   intro u_ I_
   have zu_ := I_.1.size
   refine rg_val (xmove rfl) rfl I_ (Mk.refl _ _ _) rfl
  refine rga [(7, some 25)] (by kernel_rfl) ?_ ?_
  ·
   rintro u_ I_ _ rfl
   have zu_ := I_.1.size
   refine rg_call (xcall Tryz.call60 rfl) rfl (l01Next_ok b cb (3) _ I_.2) ?_
   rintro _ w_ ⟨r_0, rfl, h_0, h_1, m_, S_⟩
   exact ⟨⟨I_.1.trans m_, S_⟩, m_, ⟨r_0, rfl, h_0, h_1⟩⟩
  refine rga [(8, some 26)] (by kernel_rfl) ?_ ?_
  ·
   rintro u_ I_ _ ⟨g26_0, rfl, f26_0, f26_1⟩
   have zu_ := I_.1.size
   refine rg_val (xsub rfl rfl (by unfold I64; omega)) rfl I_ (Mk.refl _ _ _) ⟨g26_0, rfl, f26_0, f26_1⟩
  refine rga [(3, some 21), (6, some 24), (9, some 27)] (by kernel_rfl) ?_ ?_
  ·
   rintro u_ I_ _ ⟨g21_0, rfl, f21_0⟩ _ ⟨g24_0, rfl, f24_0, f24_1⟩ _ ⟨g27_0, rfl, f27_0, f27_1⟩
   have zu_ := I_.1.size
   refine rg_val (xbuild (vs := [.string g21_0, .int .i64 ((-1) - g24_0), .int .i64 ((-1) - g27_0)]) (cells := #[.string g21_0, .int .i64 ((-1) - g24_0), .int .i64 ((-1) - g27_0)]) rfl (by kernel_rfl)) rfl I_ (Mk.refl _ _ _) ⟨g21_0, g24_0, g27_0, rfl, f21_0, f24_0, f24_1, f27_0, f27_1⟩
  refine rga [] (by kernel_rfl) ?_ ?_
  ·
   intro u_ I_
   have zu_ := I_.1.size
   refine rg_alloc Tryz.zeroValue99 rfl ?_
   intro b_ w_ e_ hb_ O_
   refine ⟨⟨I_.1.trans (Mk.ofExt e_), I_.2.ext e_⟩, Mk.ofExt e_, ⟨b_, rfl, (by omega), O_⟩⟩
  exact rga_nil
 rintro w4 I_ _ ⟨g28_0, g28_1, g28_2, rfl, f28_0, f28_1, f28_2, f28_3, f28_4⟩ _ ⟨g7_0, rfl, f7_0, f7_1⟩
 have m4 := I_.1
 have z4 := m4.size
 have E := E.trans m4
 replace S := I_.2
 replace G_5 := G_5.off m4 (by omega)
 replace G1 := G1.off m4 (by omega)
 refine ostoreN (vs := _) Tryz.sizeOf99 rfl rfl f7_1 rfl (by simp) (by simp [Value.oneCell']) rfl ?_
 intro w5 on5 O5
 have hz5 := on5.size
 have E : Mk b (b + 1) w w5 := by first | exact E.trans (Mk.ofOnly on5 (by omega) (by omega)) | exact E.young (Mk.ofOnly on5 (Nat.le_refl _) (Nat.lt_succ_self _)) (by omega)
 replace G_5 := G_5.only on5 (by omega)
 replace S := S.off (Mk.ofOnly on5 (Nat.le_refl _) (Nat.lt_succ_self _)) (by omega)
 replace G1 := G1.only on5 (by omega)
 replace O5 : Own w5 g7_0 [.string g28_0, .int .i64 ((-1) - g28_1), .int .i64 ((-1) - g28_2)] 99 := O5
 refine ops_nil ?_
 refine run_seq ?_
 refine sr_ ?_
 refine vm_ rfl rfl rfl ?_
 refine oz_ (xadd rfl rfl (by unfold I64; omega)) rfl rfl ?_
 refine vm_ rfl rfl rfl ?_
 refine oz_ (xlss rfl rfl _ rfl) rfl rfl ?_
 refine ods (fun c32 => ?_) (fun c32 => ?_)
 rotate_left
 ·
  refine vm_ rfl rfl rfl ?_
  refine o2_ rfl rfl rfl rfl ?_
  refine og rfl rfl rfl ?_
  refine oz_ (xpick_f rfl rfl) rfl rfl ?_
  refine cf_ rfl ?_
  refine run_seq ?_
  refine sr_ ?_
  refine vm_ rfl rfl rfl ?_
  refine oz_ (xadd rfl rfl (by unfold I64; omega)) rfl rfl ?_
  refine vm_ rfl rfl rfl ?_
  refine oz_ (xlss rfl rfl _ rfl) rfl rfl ?_
  refine ods (fun c51 => ?_) (fun c51 => ?_)
  rotate_left
  ·
   refine vm_ rfl rfl rfl ?_
   refine o2_ rfl rfl rfl rfl ?_
   refine og rfl rfl rfl ?_
   refine oz_ (xpick_f rfl rfl) rfl rfl ?_
   refine cf_ rfl ?_
   refine run_region ?_
   refine vm_ rfl rfl rfl ?_
   refine oz_ (v := .agg #[.string g28_0, .int .i64 ((-1) - g28_1), .int .i64 ((-1) - g28_2)]) (xloadN Tryz.isAgg99 Tryz.sizeOf99 rfl (O5.cells) rfl) rfl rfl ?_
   refine obuild (cs := [.string g28_0, .int .i64 ((-1) - g28_1), .int .i64 ((-1) - g28_2)]) (sz := 3) Tryz.underlying35 inf99 rfl rfl (by decide) rfl rfl (by simp [Value.cells]) rfl rfl rfl ?_
   intro b6 w6 e6 hb6 hz6 O6
   have E := E.trans (Mk.ofExt e6)
   replace G_5 := G_5.ext e6
   replace S := S.ext e6
   replace G1 := G1.ext e6
   refine oappT (bytes := 32) (nm := (m_5 + 1)) G_5 rfl rfl elem99 (Own.sl1 (y := (⟨(g28_0), (((-1) - g28_1)), (((-1) - g28_2))⟩ : Question)) O6) (by intro h; cases h) (by intro y hy; rfl) (by intro y hy u hu; rw [List.mem_singleton] at hy; subst hy; revert u; simp [Value.oneCell', Question.cells, strc]) (by omega) (by omega) (by omega) (by omega) rfl rfl ?_
   intro p7 c7_ w7 m7 k7 G7
   have hz7 := m7.size
   have E := E.young m7 (by omega)
   replace S := S.off m7 (by omega)
   replace G1 := (by first | exact G1.off m7 (by omega) | exact G1.offP G_5 k7 (by decide))
   refine vn_ rfl rfl rfl ?_
   refine run_inBlock ?_
   refine run_region ?_
   refine vm_ rfl rfl rfl ?_
   refine oz_ (xadd rfl rfl (by unfold I64; omega)) rfl rfl ?_
   refine vn_ rfl rfl rfl ?_
   refine run_sub ?_ (hback5 (k + 1, p7, (m_5 + 1), c7_, _, w7) (⟨E, S, G1, G7.wide (by omega) (by omega), by omega, by omega, by omega, by omega, ok_app hall (by dsimp only; omega)⟩) (by first | omega | (dsimp only; omega)))
   exact ⟨rfl, rfl, rfl, rfl, rfl, trivial⟩
  refine vm_ rfl rfl rfl ?_
  refine vm_ rfl rfl rfl ?_
  refine oc (xcall Tryz.call60 rfl) rfl rfl rfl (l01Next_ok b cb (2) _ S) ?_
  rintro _ w6 ⟨r54_0, rfl, h54_0, h54_1, m6, S6⟩
  have z6 := m6.size
  have E := E.trans m6
  replace G_5 := G_5.off m6 (by omega)
  replace G1 := G1.off m6 (by omega)
  replace O5 := m6.own O5 (by omega)
  replace S := S6
  refine oz_ (xeql rfl rfl _ rfl) rfl rfl ?_
  refine ods (fun c55 => ?_) (fun c55 => ?_)
  rotate_left
  ·
   refine oz_ (xpick_t rfl rfl) rfl rfl ?_
   refine cf_ rfl ?_
   refine run_region ?_
   refine vm_ rfl rfl rfl ?_
   refine oz_ (v := .agg #[.string g28_0, .int .i64 ((-1) - g28_1), .int .i64 ((-1) - g28_2)]) (xloadN Tryz.isAgg99 Tryz.sizeOf99 rfl (O5.cells) rfl) rfl rfl ?_
   refine obuild (cs := [.string g28_0, .int .i64 ((-1) - g28_1), .int .i64 ((-1) - g28_2)]) (sz := 3) Tryz.underlying35 inf99 rfl rfl (by decide) rfl rfl (by simp [Value.cells]) rfl rfl rfl ?_
   intro b7 w7 e7 hb7 hz7 O7
   have E := E.trans (Mk.ofExt e7)
   replace G_5 := G_5.ext e7
   replace S := S.ext e7
   replace G1 := G1.ext e7
   refine oappT (bytes := 32) (nm := (m_5 + 1)) G_5 rfl rfl elem99 (Own.sl1 (y := (⟨(g28_0), (((-1) - g28_1)), (((-1) - g28_2))⟩ : Question)) O7) (by intro h; cases h) (by intro y hy; rfl) (by intro y hy u hu; rw [List.mem_singleton] at hy; subst hy; revert u; simp [Value.oneCell', Question.cells, strc]) (by omega) (by omega) (by omega) (by omega) rfl rfl ?_
   intro p8 c8_ w8 m8 k8 G8
   have hz8 := m8.size
   have E := E.young m8 (by omega)
   replace S := S.off m8 (by omega)
   replace G1 := (by first | exact G1.off m8 (by omega) | exact G1.offP G_5 k8 (by decide))
   refine vn_ rfl rfl rfl ?_
   refine run_inBlock ?_
   refine run_region ?_
   refine vm_ rfl rfl rfl ?_
   refine oz_ (xadd rfl rfl (by unfold I64; omega)) rfl rfl ?_
   refine vn_ rfl rfl rfl ?_
   refine run_sub ?_ (hback5 (k + 1, p8, (m_5 + 1), c8_, _, w8) (⟨E, S, G1, G8.wide (by omega) (by omega), by omega, by omega, by omega, by omega, ok_app hall (by dsimp only; omega)⟩) (by first | omega | (dsimp only; omega)))
   exact ⟨rfl, rfl, rfl, rfl, rfl, trivial⟩
  refine oz_ (xpick_t rfl rfl) rfl rfl ?_
  refine ct_ rfl ?_
  refine run_region ?_
  refine vm_ rfl rfl rfl ?_
  refine oz_ (xadd rfl rfl (by unfold I64; omega)) rfl rfl ?_
  refine vm_ rfl rfl rfl ?_
  refine vm_ rfl rfl rfl ?_
  refine vm_ rfl rfl rfl ?_
  refine oz_ (xsub rfl rfl (by unfold I64; omega)) rfl rfl ?_
  refine oz_ (xsub rfl rfl (by unfold I64; omega)) rfl rfl ?_
  refine oc (xcall Tryz.call60 rfl) rfl rfl rfl (l01Next_ok b cb ((((1 + r10_0) - (k : Int)) - 1)) _ S) ?_
  rintro _ w7 ⟨r64_0, rfl, h64_0, h64_1, m7, S7⟩
  have z7 := m7.size
  have E := E.trans m7
  replace G_5 := G_5.off m7 (by omega)
  replace G1 := G1.off m7 (by omega)
  replace O5 := m7.own O5 (by omega)
  replace S := S7
  refine oz_ (xadd rfl rfl (by unfold I64; omega)) rfl rfl ?_
  refine oz_ (xfieldAddr fo99f2 rfl) rfl rfl ?_
  refine ostore1 Tryz.sizeOf2 rfl rfl O5 (by simp) rfl rfl ?_
  intro w8 on8 O8
  have hz8 := on8.size
  have E : Mk b (b + 1) w w8 := by first | exact E.trans (Mk.ofOnly on8 (by omega) (by omega)) | exact E.young (Mk.ofOnly on8 (Nat.le_refl _) (Nat.lt_succ_self _)) (by omega)
  replace G_5 := G_5.only on8 (by omega)
  replace S := S.off (Mk.ofOnly on8 (Nat.le_refl _) (Nat.lt_succ_self _)) (by omega)
  replace G1 := G1.only on8 (by omega)
  replace O8 : Own w8 g7_0 [.string g28_0, .int .i64 ((-1) - g28_1), .int .i64 (((k : Int) + 1) + r64_0)] 99 := O8
  refine ops_nil ?_
  refine run_region ?_
  refine vm_ rfl rfl rfl ?_
  refine oz_ (v := .agg #[.string g28_0, .int .i64 ((-1) - g28_1), .int .i64 (((k : Int) + 1) + r64_0)]) (xloadN Tryz.isAgg99 Tryz.sizeOf99 rfl (O8.cells) rfl) rfl rfl ?_
  refine obuild (cs := [.string g28_0, .int .i64 ((-1) - g28_1), .int .i64 (((k : Int) + 1) + r64_0)]) (sz := 3) Tryz.underlying35 inf99 rfl rfl (by decide) rfl rfl (by simp [Value.cells]) rfl rfl rfl ?_
  intro b9 w9 e9 hb9 hz9 O9
  have E := E.trans (Mk.ofExt e9)
  replace G_5 := G_5.ext e9
  replace S := S.ext e9
  replace G1 := G1.ext e9
  refine oappT (bytes := 32) (nm := (m_5 + 1)) G_5 rfl rfl elem99 (Own.sl1 (y := (⟨(g28_0), (((-1) - g28_1)), ((((k : Int) + 1) + r64_0))⟩ : Question)) O9) (by intro h; cases h) (by intro y hy; rfl) (by intro y hy u hu; rw [List.mem_singleton] at hy; subst hy; revert u; simp [Value.oneCell', Question.cells, strc]) (by omega) (by omega) (by omega) (by omega) rfl rfl ?_
  intro p10 c10_ w10 m10 k10 G10
  have hz10 := m10.size
  have E := E.young m10 (by omega)
  replace S := S.off m10 (by omega)
  replace G1 := (by first | exact G1.off m10 (by omega) | exact G1.offP G_5 k10 (by decide))
  refine vn_ rfl rfl rfl ?_
  refine run_inBlock ?_
  refine run_region ?_
  refine vm_ rfl rfl rfl ?_
  refine oz_ (xadd rfl rfl (by unfold I64; omega)) rfl rfl ?_
  refine vn_ rfl rfl rfl ?_
  refine run_sub ?_ (hback5 (k + 1, p10, (m_5 + 1), c10_, _, w10) (⟨E, S, G1, G10.wide (by omega) (by omega), by omega, by omega, by omega, by omega, ok_app hall (by dsimp only; omega)⟩) (by first | omega | (dsimp only; omega)))
  exact ⟨rfl, rfl, rfl, rfl, rfl, trivial⟩
 refine vm_ rfl rfl rfl ?_
 refine vm_ rfl rfl rfl ?_
 refine oc (xcall Tryz.call60 rfl) rfl rfl rfl (l01Next_ok b cb (4) _ S) ?_
 rintro _ w6 ⟨r35_0, rfl, h35_0, h35_1, m6, S6⟩
 have z6 := m6.size
 have E := E.trans m6
 replace G_5 := G_5.off m6 (by omega)
 replace G1 := G1.off m6 (by omega)
 replace O5 := m6.own O5 (by omega)
 replace S := S6
 refine oz_ (xgtr rfl rfl _ rfl) rfl rfl ?_
 refine ods (fun c36 => ?_) (fun c36 => ?_)
 rotate_left
 ·
  refine oz_ (xpick_t rfl rfl) rfl rfl ?_
  refine cf_ rfl ?_
  refine run_seq ?_
  refine sr_ ?_
  refine vm_ rfl rfl rfl ?_
  refine oz_ (xadd rfl rfl (by unfold I64; omega)) rfl rfl ?_
  refine vm_ rfl rfl rfl ?_
  refine oz_ (xlss rfl rfl _ rfl) rfl rfl ?_
  refine ods (fun c51 => ?_) (fun c51 => ?_)
  rotate_left
  ·
   refine vm_ rfl rfl rfl ?_
   refine o2_ rfl rfl rfl rfl ?_
   refine og rfl rfl rfl ?_
   refine oz_ (xpick_f rfl rfl) rfl rfl ?_
   refine cf_ rfl ?_
   refine run_region ?_
   refine vm_ rfl rfl rfl ?_
   refine oz_ (v := .agg #[.string g28_0, .int .i64 ((-1) - g28_1), .int .i64 ((-1) - g28_2)]) (xloadN Tryz.isAgg99 Tryz.sizeOf99 rfl (O5.cells) rfl) rfl rfl ?_
   refine obuild (cs := [.string g28_0, .int .i64 ((-1) - g28_1), .int .i64 ((-1) - g28_2)]) (sz := 3) Tryz.underlying35 inf99 rfl rfl (by decide) rfl rfl (by simp [Value.cells]) rfl rfl rfl ?_
   intro b7 w7 e7 hb7 hz7 O7
   have E := E.trans (Mk.ofExt e7)
   replace G_5 := G_5.ext e7
   replace S := S.ext e7
   replace G1 := G1.ext e7
   refine oappT (bytes := 32) (nm := (m_5 + 1)) G_5 rfl rfl elem99 (Own.sl1 (y := (⟨(g28_0), (((-1) - g28_1)), (((-1) - g28_2))⟩ : Question)) O7) (by intro h; cases h) (by intro y hy; rfl) (by intro y hy u hu; rw [List.mem_singleton] at hy; subst hy; revert u; simp [Value.oneCell', Question.cells, strc]) (by omega) (by omega) (by omega) (by omega) rfl rfl ?_
   intro p8 c8_ w8 m8 k8 G8
   have hz8 := m8.size
   have E := E.young m8 (by omega)
   replace S := S.off m8 (by omega)
   replace G1 := (by first | exact G1.off m8 (by omega) | exact G1.offP G_5 k8 (by decide))
   refine vn_ rfl rfl rfl ?_
   refine run_inBlock ?_
   refine run_region ?_
   refine vm_ rfl rfl rfl ?_
   refine oz_ (xadd rfl rfl (by unfold I64; omega)) rfl rfl ?_
   refine vn_ rfl rfl rfl ?_
   refine run_sub ?_ (hback5 (k + 1, p8, (m_5 + 1), c8_, _, w8) (⟨E, S, G1, G8.wide (by omega) (by omega), by omega, by omega, by omega, by omega, ok_app hall (by dsimp only; omega)⟩) (by first | omega | (dsimp only; omega)))
   exact ⟨rfl, rfl, rfl, rfl, rfl, trivial⟩
  refine vm_ rfl rfl rfl ?_
  refine vm_ rfl rfl rfl ?_
  refine oc (xcall Tryz.call60 rfl) rfl rfl rfl (l01Next_ok b cb (2) _ S) ?_
  rintro _ w7 ⟨r54_0, rfl, h54_0, h54_1, m7, S7⟩
  have z7 := m7.size
  have E := E.trans m7
  replace G_5 := G_5.off m7 (by omega)
  replace G1 := G1.off m7 (by omega)
  replace O5 := m7.own O5 (by omega)
  replace S := S7
  refine oz_ (xeql rfl rfl _ rfl) rfl rfl ?_
  refine ods (fun c55 => ?_) (fun c55 => ?_)
  rotate_left
  ·
   refine oz_ (xpick_t rfl rfl) rfl rfl ?_
   refine cf_ rfl ?_
   refine run_region ?_
   refine vm_ rfl rfl rfl ?_
   refine oz_ (v := .agg #[.string g28_0, .int .i64 ((-1) - g28_1), .int .i64 ((-1) - g28_2)]) (xloadN Tryz.isAgg99 Tryz.sizeOf99 rfl (O5.cells) rfl) rfl rfl ?_
   refine obuild (cs := [.string g28_0, .int .i64 ((-1) - g28_1), .int .i64 ((-1) - g28_2)]) (sz := 3) Tryz.underlying35 inf99 rfl rfl (by decide) rfl rfl (by simp [Value.cells]) rfl rfl rfl ?_
   intro b8 w8 e8 hb8 hz8 O8
   have E := E.trans (Mk.ofExt e8)
   replace G_5 := G_5.ext e8
   replace S := S.ext e8
   replace G1 := G1.ext e8
   refine oappT (bytes := 32) (nm := (m_5 + 1)) G_5 rfl rfl elem99 (Own.sl1 (y := (⟨(g28_0), (((-1) - g28_1)), (((-1) - g28_2))⟩ : Question)) O8) (by intro h; cases h) (by intro y hy; rfl) (by intro y hy u hu; rw [List.mem_singleton] at hy; subst hy; revert u; simp [Value.oneCell', Question.cells, strc]) (by omega) (by omega) (by omega) (by omega) rfl rfl ?_
   intro p9 c9_ w9 m9 k9 G9
   have hz9 := m9.size
   have E := E.young m9 (by omega)
   replace S := S.off m9 (by omega)
   replace G1 := (by first | exact G1.off m9 (by omega) | exact G1.offP G_5 k9 (by decide))
   refine vn_ rfl rfl rfl ?_
   refine run_inBlock ?_
   refine run_region ?_
   refine vm_ rfl rfl rfl ?_
   refine oz_ (xadd rfl rfl (by unfold I64; omega)) rfl rfl ?_
   refine vn_ rfl rfl rfl ?_
   refine run_sub ?_ (hback5 (k + 1, p9, (m_5 + 1), c9_, _, w9) (⟨E, S, G1, G9.wide (by omega) (by omega), by omega, by omega, by omega, by omega, ok_app hall (by dsimp only; omega)⟩) (by first | omega | (dsimp only; omega)))
   exact ⟨rfl, rfl, rfl, rfl, rfl, trivial⟩
  refine oz_ (xpick_t rfl rfl) rfl rfl ?_
  refine ct_ rfl ?_
  refine run_region ?_
  refine vm_ rfl rfl rfl ?_
  refine oz_ (xadd rfl rfl (by unfold I64; omega)) rfl rfl ?_
  refine vm_ rfl rfl rfl ?_
  refine vm_ rfl rfl rfl ?_
  refine vm_ rfl rfl rfl ?_
  refine oz_ (xsub rfl rfl (by unfold I64; omega)) rfl rfl ?_
  refine oz_ (xsub rfl rfl (by unfold I64; omega)) rfl rfl ?_
  refine oc (xcall Tryz.call60 rfl) rfl rfl rfl (l01Next_ok b cb ((((1 + r10_0) - (k : Int)) - 1)) _ S) ?_
  rintro _ w8 ⟨r64_0, rfl, h64_0, h64_1, m8, S8⟩
  have z8 := m8.size
  have E := E.trans m8
  replace G_5 := G_5.off m8 (by omega)
  replace G1 := G1.off m8 (by omega)
  replace O5 := m8.own O5 (by omega)
  replace S := S8
  refine oz_ (xadd rfl rfl (by unfold I64; omega)) rfl rfl ?_
  refine oz_ (xfieldAddr fo99f2 rfl) rfl rfl ?_
  refine ostore1 Tryz.sizeOf2 rfl rfl O5 (by simp) rfl rfl ?_
  intro w9 on9 O9
  have hz9 := on9.size
  have E : Mk b (b + 1) w w9 := by first | exact E.trans (Mk.ofOnly on9 (by omega) (by omega)) | exact E.young (Mk.ofOnly on9 (Nat.le_refl _) (Nat.lt_succ_self _)) (by omega)
  replace G_5 := G_5.only on9 (by omega)
  replace S := S.off (Mk.ofOnly on9 (Nat.le_refl _) (Nat.lt_succ_self _)) (by omega)
  replace G1 := G1.only on9 (by omega)
  replace O9 : Own w9 g7_0 [.string g28_0, .int .i64 ((-1) - g28_1), .int .i64 (((k : Int) + 1) + r64_0)] 99 := O9
  refine ops_nil ?_
  refine run_region ?_
  refine vm_ rfl rfl rfl ?_
  refine oz_ (v := .agg #[.string g28_0, .int .i64 ((-1) - g28_1), .int .i64 (((k : Int) + 1) + r64_0)]) (xloadN Tryz.isAgg99 Tryz.sizeOf99 rfl (O9.cells) rfl) rfl rfl ?_
  refine obuild (cs := [.string g28_0, .int .i64 ((-1) - g28_1), .int .i64 (((k : Int) + 1) + r64_0)]) (sz := 3) Tryz.underlying35 inf99 rfl rfl (by decide) rfl rfl (by simp [Value.cells]) rfl rfl rfl ?_
  intro b10 w10 e10 hb10 hz10 O10
  have E := E.trans (Mk.ofExt e10)
  replace G_5 := G_5.ext e10
  replace S := S.ext e10
  replace G1 := G1.ext e10
  refine oappT (bytes := 32) (nm := (m_5 + 1)) G_5 rfl rfl elem99 (Own.sl1 (y := (⟨(g28_0), (((-1) - g28_1)), ((((k : Int) + 1) + r64_0))⟩ : Question)) O10) (by intro h; cases h) (by intro y hy; rfl) (by intro y hy u hu; rw [List.mem_singleton] at hy; subst hy; revert u; simp [Value.oneCell', Question.cells, strc]) (by omega) (by omega) (by omega) (by omega) rfl rfl ?_
  intro p11 c11_ w11 m11 k11 G11
  have hz11 := m11.size
  have E := E.young m11 (by omega)
  replace S := S.off m11 (by omega)
  replace G1 := (by first | exact G1.off m11 (by omega) | exact G1.offP G_5 k11 (by decide))
  refine vn_ rfl rfl rfl ?_
  refine run_inBlock ?_
  refine run_region ?_
  refine vm_ rfl rfl rfl ?_
  refine oz_ (xadd rfl rfl (by unfold I64; omega)) rfl rfl ?_
  refine vn_ rfl rfl rfl ?_
  refine run_sub ?_ (hback5 (k + 1, p11, (m_5 + 1), c11_, _, w11) (⟨E, S, G1, G11.wide (by omega) (by omega), by omega, by omega, by omega, by omega, ok_app hall (by dsimp only; omega)⟩) (by first | omega | (dsimp only; omega)))
  exact ⟨rfl, rfl, rfl, rfl, rfl, trivial⟩
 refine oz_ (xpick_t rfl rfl) rfl rfl ?_
 refine ct_ rfl ?_
 refine run_region ?_
 refine vm_ rfl rfl rfl ?_
 refine oz_ (xadd rfl rfl (by unfold I64; omega)) rfl rfl ?_
 refine vm_ rfl rfl rfl ?_
 refine vm_ rfl rfl rfl ?_
 refine vm_ rfl rfl rfl ?_
 refine oz_ (xsub rfl rfl (by unfold I64; omega)) rfl rfl ?_
 refine oz_ (xsub rfl rfl (by unfold I64; omega)) rfl rfl ?_
 refine oc (xcall Tryz.call60 rfl) rfl rfl rfl (l01Next_ok b cb ((((1 + r10_0) - (k : Int)) - 1)) _ S) ?_
 rintro _ w7 ⟨r45_0, rfl, h45_0, h45_1, m7, S7⟩
 have z7 := m7.size
 have E := E.trans m7
 replace G_5 := G_5.off m7 (by omega)
 replace G1 := G1.off m7 (by omega)
 replace O5 := m7.own O5 (by omega)
 replace S := S7
 refine oz_ (xadd rfl rfl (by unfold I64; omega)) rfl rfl ?_
 refine oz_ (xfieldAddr fo99f1 rfl) rfl rfl ?_
 refine ostore1 Tryz.sizeOf2 rfl rfl O5 (by simp) rfl rfl ?_
 intro w8 on8 O8
 have hz8 := on8.size
 have E : Mk b (b + 1) w w8 := by first | exact E.trans (Mk.ofOnly on8 (by omega) (by omega)) | exact E.young (Mk.ofOnly on8 (Nat.le_refl _) (Nat.lt_succ_self _)) (by omega)
 replace G_5 := G_5.only on8 (by omega)
 replace S := S.off (Mk.ofOnly on8 (Nat.le_refl _) (Nat.lt_succ_self _)) (by omega)
 replace G1 := G1.only on8 (by omega)
 replace O8 : Own w8 g7_0 [.string g28_0, .int .i64 (((k : Int) + 1) + r45_0), .int .i64 ((-1) - g28_2)] 99 := O8
 refine ops_nil ?_
 refine run_seq ?_
 refine sr_ ?_
 refine vm_ rfl rfl rfl ?_
 refine oz_ (xadd rfl rfl (by unfold I64; omega)) rfl rfl ?_
 refine vm_ rfl rfl rfl ?_
 refine oz_ (xlss rfl rfl _ rfl) rfl rfl ?_
 refine ods (fun c51 => ?_) (fun c51 => ?_)
 rotate_left
 ·
  refine vm_ rfl rfl rfl ?_
  refine o2_ rfl rfl rfl rfl ?_
  refine og rfl rfl rfl ?_
  refine oz_ (xpick_f rfl rfl) rfl rfl ?_
  refine cf_ rfl ?_
  refine run_region ?_
  refine vm_ rfl rfl rfl ?_
  refine oz_ (v := .agg #[.string g28_0, .int .i64 (((k : Int) + 1) + r45_0), .int .i64 ((-1) - g28_2)]) (xloadN Tryz.isAgg99 Tryz.sizeOf99 rfl (O8.cells) rfl) rfl rfl ?_
  refine obuild (cs := [.string g28_0, .int .i64 (((k : Int) + 1) + r45_0), .int .i64 ((-1) - g28_2)]) (sz := 3) Tryz.underlying35 inf99 rfl rfl (by decide) rfl rfl (by simp [Value.cells]) rfl rfl rfl ?_
  intro b9 w9 e9 hb9 hz9 O9
  have E := E.trans (Mk.ofExt e9)
  replace G_5 := G_5.ext e9
  replace S := S.ext e9
  replace G1 := G1.ext e9
  refine oappT (bytes := 32) (nm := (m_5 + 1)) G_5 rfl rfl elem99 (Own.sl1 (y := (⟨(g28_0), ((((k : Int) + 1) + r45_0)), (((-1) - g28_2))⟩ : Question)) O9) (by intro h; cases h) (by intro y hy; rfl) (by intro y hy u hu; rw [List.mem_singleton] at hy; subst hy; revert u; simp [Value.oneCell', Question.cells, strc]) (by omega) (by omega) (by omega) (by omega) rfl rfl ?_
  intro p10 c10_ w10 m10 k10 G10
  have hz10 := m10.size
  have E := E.young m10 (by omega)
  replace S := S.off m10 (by omega)
  replace G1 := (by first | exact G1.off m10 (by omega) | exact G1.offP G_5 k10 (by decide))
  refine vn_ rfl rfl rfl ?_
  refine run_inBlock ?_
  refine run_region ?_
  refine vm_ rfl rfl rfl ?_
  refine oz_ (xadd rfl rfl (by unfold I64; omega)) rfl rfl ?_
  refine vn_ rfl rfl rfl ?_
  refine run_sub ?_ (hback5 (k + 1, p10, (m_5 + 1), c10_, _, w10) (⟨E, S, G1, G10.wide (by omega) (by omega), by omega, by omega, by omega, by omega, ok_app hall (by dsimp only; omega)⟩) (by first | omega | (dsimp only; omega)))
  exact ⟨rfl, rfl, rfl, rfl, rfl, trivial⟩
 refine vm_ rfl rfl rfl ?_
 refine vm_ rfl rfl rfl ?_
 refine oc (xcall Tryz.call60 rfl) rfl rfl rfl (l01Next_ok b cb (2) _ S) ?_
 rintro _ w9 ⟨r54_0, rfl, h54_0, h54_1, m9, S9⟩
 have z9 := m9.size
 have E := E.trans m9
 replace G_5 := G_5.off m9 (by omega)
 replace G1 := G1.off m9 (by omega)
 replace O8 := m9.own O8 (by omega)
 replace S := S9
 refine oz_ (xeql rfl rfl _ rfl) rfl rfl ?_
 refine ods (fun c55 => ?_) (fun c55 => ?_)
 rotate_left
 ·
  refine oz_ (xpick_t rfl rfl) rfl rfl ?_
  refine cf_ rfl ?_
  refine run_region ?_
  refine vm_ rfl rfl rfl ?_
  refine oz_ (v := .agg #[.string g28_0, .int .i64 (((k : Int) + 1) + r45_0), .int .i64 ((-1) - g28_2)]) (xloadN Tryz.isAgg99 Tryz.sizeOf99 rfl (O8.cells) rfl) rfl rfl ?_
  refine obuild (cs := [.string g28_0, .int .i64 (((k : Int) + 1) + r45_0), .int .i64 ((-1) - g28_2)]) (sz := 3) Tryz.underlying35 inf99 rfl rfl (by decide) rfl rfl (by simp [Value.cells]) rfl rfl rfl ?_
  intro b10 w10 e10 hb10 hz10 O10
  have E := E.trans (Mk.ofExt e10)
  replace G_5 := G_5.ext e10
  replace S := S.ext e10
  replace G1 := G1.ext e10
  refine oappT (bytes := 32) (nm := (m_5 + 1)) G_5 rfl rfl elem99 (Own.sl1 (y := (⟨(g28_0), ((((k : Int) + 1) + r45_0)), (((-1) - g28_2))⟩ : Question)) O10) (by intro h; cases h) (by intro y hy; rfl) (by intro y hy u hu; rw [List.mem_singleton] at hy; subst hy; revert u; simp [Value.oneCell', Question.cells, strc]) (by omega) (by omega) (by omega) (by omega) rfl rfl ?_
  intro p11 c11_ w11 m11 k11 G11
  have hz11 := m11.size
  have E := E.young m11 (by omega)
  replace S := S.off m11 (by omega)
  replace G1 := (by first | exact G1.off m11 (by omega) | exact G1.offP G_5 k11 (by decide))
  refine vn_ rfl rfl rfl ?_
  refine run_inBlock ?_
  refine run_region ?_
  refine vm_ rfl rfl rfl ?_
  refine oz_ (xadd rfl rfl (by unfold I64; omega)) rfl rfl ?_
  refine vn_ rfl rfl rfl ?_
  refine run_sub ?_ (hback5 (k + 1, p11, (m_5 + 1), c11_, _, w11) (⟨E, S, G1, G11.wide (by omega) (by omega), by omega, by omega, by omega, by omega, ok_app hall (by dsimp only; omega)⟩) (by first | omega | (dsimp only; omega)))
  exact ⟨rfl, rfl, rfl, rfl, rfl, trivial⟩
 refine oz_ (xpick_t rfl rfl) rfl rfl ?_
 refine ct_ rfl ?_
 refine run_region ?_
 refine vm_ rfl rfl rfl ?_
 refine oz_ (xadd rfl rfl (by unfold I64; omega)) rfl rfl ?_
 refine vm_ rfl rfl rfl ?_
 refine vm_ rfl rfl rfl ?_
 refine vm_ rfl rfl rfl ?_
 refine oz_ (xsub rfl rfl (by unfold I64; omega)) rfl rfl ?_
 refine oz_ (xsub rfl rfl (by unfold I64; omega)) rfl rfl ?_
 refine oc (xcall Tryz.call60 rfl) rfl rfl rfl (l01Next_ok b cb ((((1 + r10_0) - (k : Int)) - 1)) _ S) ?_
 rintro _ w10 ⟨r64_0, rfl, h64_0, h64_1, m10, S10⟩
 have z10 := m10.size
 have E := E.trans m10
 replace G_5 := G_5.off m10 (by omega)
 replace G1 := G1.off m10 (by omega)
 replace O8 := m10.own O8 (by omega)
 replace S := S10
 refine oz_ (xadd rfl rfl (by unfold I64; omega)) rfl rfl ?_
 refine oz_ (xfieldAddr fo99f2 rfl) rfl rfl ?_
 refine ostore1 Tryz.sizeOf2 rfl rfl O8 (by simp) rfl rfl ?_
 intro w11 on11 O11
 have hz11 := on11.size
 have E : Mk b (b + 1) w w11 := by first | exact E.trans (Mk.ofOnly on11 (by omega) (by omega)) | exact E.young (Mk.ofOnly on11 (Nat.le_refl _) (Nat.lt_succ_self _)) (by omega)
 replace G_5 := G_5.only on11 (by omega)
 replace S := S.off (Mk.ofOnly on11 (Nat.le_refl _) (Nat.lt_succ_self _)) (by omega)
 replace G1 := G1.only on11 (by omega)
 replace O11 : Own w11 g7_0 [.string g28_0, .int .i64 (((k : Int) + 1) + r45_0), .int .i64 (((k : Int) + 1) + r64_0)] 99 := O11
 refine ops_nil ?_
 refine run_region ?_
 refine vm_ rfl rfl rfl ?_
 refine oz_ (v := .agg #[.string g28_0, .int .i64 (((k : Int) + 1) + r45_0), .int .i64 (((k : Int) + 1) + r64_0)]) (xloadN Tryz.isAgg99 Tryz.sizeOf99 rfl (O11.cells) rfl) rfl rfl ?_
 refine obuild (cs := [.string g28_0, .int .i64 (((k : Int) + 1) + r45_0), .int .i64 (((k : Int) + 1) + r64_0)]) (sz := 3) Tryz.underlying35 inf99 rfl rfl (by decide) rfl rfl (by simp [Value.cells]) rfl rfl rfl ?_
 intro b12 w12 e12 hb12 hz12 O12
 have E := E.trans (Mk.ofExt e12)
 replace G_5 := G_5.ext e12
 replace S := S.ext e12
 replace G1 := G1.ext e12
 refine oappT (bytes := 32) (nm := (m_5 + 1)) G_5 rfl rfl elem99 (Own.sl1 (y := (⟨(g28_0), ((((k : Int) + 1) + r45_0)), ((((k : Int) + 1) + r64_0))⟩ : Question)) O12) (by intro h; cases h) (by intro y hy; rfl) (by intro y hy u hu; rw [List.mem_singleton] at hy; subst hy; revert u; simp [Value.oneCell', Question.cells, strc]) (by omega) (by omega) (by omega) (by omega) rfl rfl ?_
 intro p13 c13_ w13 m13 k13 G13
 have hz13 := m13.size
 have E := E.young m13 (by omega)
 replace S := S.off m13 (by omega)
 replace G1 := (by first | exact G1.off m13 (by omega) | exact G1.offP G_5 k13 (by decide))
 refine vn_ rfl rfl rfl ?_
 refine run_inBlock ?_
 refine run_region ?_
 refine vm_ rfl rfl rfl ?_
 refine oz_ (xadd rfl rfl (by unfold I64; omega)) rfl rfl ?_
 refine vn_ rfl rfl rfl ?_
 refine run_sub ?_ (hback5 (k + 1, p13, (m_5 + 1), c13_, _, w13) (⟨E, S, G1, G13.wide (by omega) (by omega), by omega, by omega, by omega, by omega, ok_app hall (by dsimp only; omega)⟩) (by first | omega | (dsimp only; omega)))
 exact ⟨rfl, rfl, rfl, rfl, rfl, trivial⟩
theorem set_ok {α : Type} {q : α → Prop} {xs : List α} {i : Nat} {y : α} (h : ∀ x ∈ xs, q x) (hy : q y) : ∀ x ∈ xs.set i y, q x := fun x m => by
  rcases List.mem_or_eq_of_mem_set m with m | m
  · exact h x m
  · subst m; exact hy
set_option maxHeartbeats 2000000 in
theorem l26Answers_ok (b cb : Nat) (p : Option Addr) (n c : Nat) (w : World) (S : Src w b cb) (hn : n ≤ 1000) : Ret Tryz.prog 59 [.pointer (some ⟨b, 0, none⟩), .slice p n c] w (fun v w' => ∃ (xs : List Int) (q : Option Addr) (m d : Nat), v = .slice q m d ∧ (∀ x ∈ xs, -5 ≤ x ∧ x ≤ 5) ∧ m ≤ n + 1 ∧ Ow i64c 1 2 w' w.heap.size w'.heap.size q m d xs ∧ Mk b (b + 1) w w' ∧ Src w' b cb) := by
 refine ret_of_run (N := 36) Tryz.func59 rfl rfl rfl ?_
 have hbl := S.lt
 have hcb := S.cb
 have E : Mk b (b + 1) w w := Mk.refl _ _ _
 refine sr_ ?_
 refine vn_ rfl rfl rfl ?_
 refine sr_ ?_
 refine obuild (cs := []) (sz := 1) Tryz.underlying24 inf2 rfl rfl (by decide) rfl rfl (by simp [Value.cells]) rfl rfl rfl ?_
 intro b1 w1 e1 hb1 hz1 O1
 have E := E.trans (Mk.ofExt e1)
 replace S := S.ext e1
 have G1 : Ow i64c 1 2 w1 b1 (b1 + 1) (some ⟨b1, 0, none⟩) 0 0 ([] : List Int) := Own.ow (by simpa [i64c] using O1) rfl (by omega) (Nat.le_refl _) (by omega) (by intro x hx; rfl)
 refine vn_ rfl rfl rfl ?_
 refine run_seq ?_
 refine sr_ ?_
 refine vm_ rfl rfl rfl ?_
 refine oz_ (xlen Tryz.underlying35 rfl) rfl rfl ?_
 refine vm_ rfl rfl rfl ?_
 refine ops_nil ?_
 refine run_block ?_
 refine run_loop (ι := Nat × Option Addr × Nat × Nat × List Int × World) (fun x_ => match x_ with | (k, q_5, m_5, c_5, ys_5, wr) => (Mk b (b + 1) w wr) ∧ (Src wr b cb) ∧ (Ow i64c 1 2 wr b1 wr.heap.size q_5 m_5 c_5 ys_5) ∧ (b1 ≤ wr.heap.size) ∧ (w1.heap.size ≤ wr.heap.size) ∧ (k ≤ n) ∧ (m_5 = k) ∧ (∀ x ∈ ys_5, -5 ≤ x ∧ x ≤ 5)) (fun x_ => match x_ with | (k, q_5, m_5, c_5, ys_5, wr) => [(0, .pointer (some ⟨b, 0, none⟩)), (5, .slice q_5 m_5 c_5), (8, .int .i64 (n : Int)), (9, .int .i64 (k : Int))]) (fun x_ => match x_ with | (k, q_5, m_5, c_5, ys_5, wr) => wr) (fun x_ => match x_ with | (k, q_5, m_5, c_5, ys_5, wr) => n - k) ?_ (0, (some ⟨b1, 0, none⟩), 0, 0, [], w1) (⟨E, S, G1.wide (by omega) (by omega), by omega, Nat.le_refl _, by omega, rfl, by intro x hx; cases hx⟩) ⟨rfl, rfl, rfl, rfl, trivial⟩ rfl
 intro i_ hI_ hback3
 obtain ⟨k, q_5, m_5, c_5, ys_5, wr⟩ := i_
 obtain ⟨E, S, G_5, lo_5, lz_wr, hk, hm5, hall⟩ := hI_
 try dsimp only
 have zr := E.size
 have lg_5 := G_5.len
 refine sr_ ?_
 refine oz_ (xlss rfl rfl _ rfl) rfl rfl ?_
 refine ods (fun c10 => ?_) (fun c10 => ?_)
 ·
  refine ops_nil ?_
  refine run_seq ?_
  refine run_cond_t rfl ?_
  refine run_skip ?_
  refine run_seq ?_
  refine run_block ?_
  refine run_region ?_
  refine vm_ rfl rfl rfl ?_
  refine vm_ rfl rfl rfl ?_
  refine obuild (cs := [.int .i64 0, .int .i64 1, .int .i64 1, .int .i64 0, .int .i64 (-1)]) (sz := 1) Tryz.underlying24 inf2 rfl rfl (by decide) rfl rfl (by simp [Value.cells]) rfl rfl rfl ?_
  intro b2 w2 e2 hb2 hz2 O2
  have E := E.trans (Mk.ofExt e2)
  replace G_5 := G_5.ext e2
  replace S := S.ext e2
  have G2 : Ow i64c 1 2 w2 b2 (b2 + 1) (some ⟨b2, 0, none⟩) 5 5 ([0, 1, 1, 0, (-1)] : List Int) := Own.ow (by simpa [i64c] using O2) rfl (by omega) (Nat.le_refl _) (by omega) (by intro x hx; rfl)
  refine oc (xcall Tryz.call61 rfl) rfl rfl rfl (l01Pick_ok b cb _ _ _ ([0, 1, 1, 0, (-1)] : List Int) 1 _ S (G2.sl) (by decide) (by omega) (by simp only [pb, Option.getD_some]; omega)) ?_
  rintro _ w3 ⟨r14_0, rfl, h14_0, m3, S3⟩
  have z3 := m3.size
  have E := E.trans m3
  replace G_5 := G_5.off m3 (by omega)
  replace S := S3
  refine obuild (cs := [.int .i64 r14_0]) (sz := 1) Tryz.underlying24 inf2 rfl rfl (by decide) rfl rfl (by simp [Value.cells]) rfl rfl rfl ?_
  intro b4 w4 e4 hb4 hz4 O4
  have E := E.trans (Mk.ofExt e4)
  replace G_5 := G_5.ext e4
  replace S := S.ext e4
  refine oapp (bytes := 8) (nm := (m_5 + 1)) G_5 rfl rfl elem2 (Own.sl1 (y := r14_0) O4) (by intro h; cases h) (by intro y hy; rfl) (by intro y hy u hu; rw [List.mem_singleton] at hy; subst hy; revert u; simp [Value.oneCell', i64c]) (by omega) (by omega) (by omega) (by omega) rfl rfl ?_
  intro p5 c5_ w5 m5 G5
  have hz5 := m5.size
  have E := E.young m5 (by omega)
  replace S := S.off m5 (by omega)
  refine vn_ rfl rfl rfl ?_
  refine run_inBlock ?_
  refine run_region ?_
  refine oz_ (xadd rfl rfl (by unfold I64; omega)) rfl rfl ?_
  refine vm_ rfl rfl rfl ?_
  refine ops_nil ?_
  refine run_sub ?_ (hback3 (k + 1, p5, (m_5 + 1), c5_, _, w5) (⟨E, S, G5.wide (by omega) (by omega), by omega, by omega, by omega, by omega, ok_app hall (by omega)⟩) (by first | omega | (dsimp only; omega)))
  exact ⟨rfl, rfl, rfl, rfl, trivial⟩
 refine ops_nil ?_
 refine run_seq ?_
 refine run_cond_f rfl ?_
 refine run_exit rfl ?_
 refine run_seq ?_
 refine sr_ ?_
 refine vm_ rfl rfl rfl ?_
 refine oc (xcall Tryz.call60 rfl) rfl rfl rfl (l01Next_ok b cb (40) _ S) ?_
 rintro _ w2 ⟨r19_0, rfl, h19_0, h19_1, m2, S2⟩
 have z2 := m2.size
 have E := E.trans m2
 replace G_5 := G_5.off m2 (by omega)
 replace S := S2
 refine ops_nil ?_
 refine run_block ?_
 refine sr_ ?_
 refine oz_ (xeql rfl rfl _ rfl) rfl rfl ?_
 refine ods (fun c21 => ?_) (fun c21 => ?_)
 ·
  refine vn_ rfl rfl rfl ?_
  refine run_cond_t rfl ?_
  refine run_region ?_
  refine vm_ rfl rfl rfl ?_
  refine obuild (cs := [.int .i64 1]) (sz := 1) Tryz.underlying24 inf2 rfl rfl (by decide) rfl rfl (by simp [Value.cells]) rfl rfl rfl ?_
  intro b3 w3 e3 hb3 hz3 O3
  have E := E.trans (Mk.ofExt e3)
  replace G_5 := G_5.ext e3
  replace S := S.ext e3
  refine oapp (bytes := 8) (nm := (m_5 + 1)) G_5 rfl rfl elem2 (Own.sl1 (y := 1) O3) (by intro h; cases h) (by intro y hy; rfl) (by intro y hy u hu; rw [List.mem_singleton] at hy; subst hy; revert u; simp [Value.oneCell', i64c]) (by omega) (by omega) (by omega) (by omega) rfl rfl ?_
  intro p4 c4_ w4 m4 G4
  have hz4 := m4.size
  have E := E.young m4 (by omega)
  replace S := S.off m4 (by omega)
  refine vn_ rfl rfl rfl ?_
  refine run_inBlock ?_
  refine sr_ ?_
  refine vm_ rfl rfl rfl ?_
  refine vn_ rfl rfl rfl ?_
  refine run_ret Tryz.func59 (res1 rfl rfl) ?_
  exact ⟨_, rfl, _, _, _, _, rfl, ok_app hall (by omega), by omega, G4.wide (by omega) (by omega), E, S⟩
 refine vn_ rfl rfl rfl ?_
 refine run_cond_f rfl ?_
 refine sr_ ?_
 refine oz_ (xeql rfl rfl _ rfl) rfl rfl ?_
 refine ods (fun c26 => ?_) (fun c26 => ?_)
 rotate_left
 ·
  refine vn_ rfl rfl rfl ?_
  refine run_cond_f rfl ?_
  refine run_skip ?_
  refine run_inBlock ?_
  refine sr_ ?_
  refine vm_ rfl rfl rfl ?_
  refine vn_ rfl rfl rfl ?_
  refine run_ret Tryz.func59 (res1 rfl rfl) ?_
  exact ⟨_, rfl, _, _, _, _, rfl, hall, by omega, G_5.wide (by omega) (by omega), E, S⟩
 refine vn_ rfl rfl rfl ?_
 refine run_cond_t rfl ?_
 refine sr_ ?_
 refine vm_ rfl rfl rfl ?_
 refine oz_ (xlen Tryz.underlying24 rfl) rfl rfl ?_
 refine oz_ (xgtr rfl rfl _ rfl) rfl rfl ?_
 refine ods (fun c29 => ?_) (fun c29 => ?_)
 rotate_left
 ·
  refine cf_ rfl ?_
  refine run_inBlock ?_
  refine sr_ ?_
  refine vm_ rfl rfl rfl ?_
  refine vn_ rfl rfl rfl ?_
  refine run_ret Tryz.func59 (res1 rfl rfl) ?_
  exact ⟨_, rfl, _, _, _, _, rfl, hall, by omega, G_5.wide (by omega) (by omega), E, S⟩
 refine ct_ rfl ?_
 refine run_region ?_
 refine vm_ rfl rfl rfl ?_
 refine vm_ rfl rfl rfl ?_
 refine obuild (cs := [.int .i64 2, .int .i64 (-2)]) (sz := 1) Tryz.underlying24 inf2 rfl rfl (by decide) rfl rfl (by simp [Value.cells]) rfl rfl rfl ?_
 intro b3 w3 e3 hb3 hz3 O3
 have E := E.trans (Mk.ofExt e3)
 replace G_5 := G_5.ext e3
 replace S := S.ext e3
 have G3 : Ow i64c 1 2 w3 b3 (b3 + 1) (some ⟨b3, 0, none⟩) 2 2 ([2, (-2)] : List Int) := Own.ow (by simpa [i64c] using O3) rfl (by omega) (Nat.le_refl _) (by omega) (by intro x hx; rfl)
 refine oc (xcall Tryz.call61 rfl) rfl rfl rfl (l01Pick_ok b cb _ _ _ ([2, (-2)] : List Int) 2 _ S (G3.sl) (by decide) (by omega) (by simp only [pb, Option.getD_some]; omega)) ?_
 rintro _ w4 ⟨r33_0, rfl, h33_0, m4, S4⟩
 have z4 := m4.size
 have E := E.trans m4
 replace G_5 := G_5.off m4 (by omega)
 replace S := S4
 have h34 := (G_5.sl).at (i := 0) (by omega)
 refine oz_ (xindexN (i := 0) Tryz.underlying24 Tryz.sizeOf2 rfl rfl rfl ((G_5.sl).p (i := 0) (by omega)) (by have := (G_5.sl).len; omega)) rfl rfl ?_
 refine ostoreOw1 (i := 0) (y := (r33_0)) Tryz.sizeOf2 G_5 (by omega) rfl rfl rfl rfl rfl ?_
 intro w5 m5 g5
 have z5 := m5.size
 have E := E.young m5 (by omega)
 replace S := S.off m5 (by omega)
 replace G_5 := g5
 refine ops_nil ?_
 refine run_inBlock ?_
 refine sr_ ?_
 refine vm_ rfl rfl rfl ?_
 refine vn_ rfl rfl rfl ?_
 refine run_ret Tryz.func59 (res1 rfl rfl) ?_
 exact ⟨_, rfl, _, _, _, _, rfl, set_ok hall (by omega), by omega, G_5.wide (by omega) (by omega), E, S⟩
theorem ext_size (s : ByteArray) (a b : Nat) : (s.extract a b).size ≤ b - a := by rw [ByteArray.size_extract]; omega
set_option maxHeartbeats 2000000 in
theorem l26Draw_ok (b cb : Nat) (w : World) (S : Src w b cb) : Ret Tryz.prog 63 [.pointer (some ⟨b, 0, none⟩)] w (fun v w' => ∃ (xs : List Question) (q : Option Addr) (m d : Nat), v = .slice q m d ∧ (∀ x ∈ xs, x.Label.size ≤ 100) ∧ m ≤ 11 ∧ SlF Question.cells 3 w' w.heap.size w'.heap.size q m d xs ∧ Mk b (b + 1) w w' ∧ Src w' b cb) := by
 refine ret_of_run (N := 60) Tryz.func63 rfl rfl rfl ?_
 have hbl := S.lt
 have hcb := S.cb
 have E : Mk b (b + 1) w w := Mk.refl _ _ _
 refine sr_ ?_
 refine vn_ rfl rfl rfl ?_
 refine sr_ ?_
 refine vm_ rfl rfl rfl ?_
 refine oc (xcall Tryz.call58 rfl) rfl rfl rfl (l26Good_ok b cb _ S) ?_
 rintro _ w1 ⟨r7_0, r7_1, r7_2, r7_3, rfl, h7_0, h7_1, h7_2, m1, S1⟩
 have z1 := m1.size
 have E := E.trans m1
 replace S := S1
 refine vn_ rfl rfl rfl ?_
 refine sr_ ?_
 refine vm_ rfl rfl rfl ?_
 refine vm_ rfl rfl rfl ?_
 refine oz_ (xlen Tryz.underlying35 rfl) rfl rfl ?_
 refine oc (xcall Tryz.call60 rfl) rfl rfl rfl (l01Next_ok b cb ((r7_2 : Int)) _ S) ?_
 rintro _ w2 ⟨r11_0, rfl, h11_0, h11_1, m2, S2⟩
 have z2 := m2.size
 have E := E.trans m2
 replace h7_2 := h7_2.off m2 (by omega)
 replace S := S2
 refine vn_ rfl rfl rfl ?_
 refine run_seq ?_
 refine sr_ ?_
 refine vm_ rfl rfl rfl ?_
 refine oc (xcall Tryz.call60 rfl) rfl rfl rfl (l01Next_ok b cb (40) _ S) ?_
 rintro _ w3 ⟨r13_0, rfl, h13_0, h13_1, m3, S3⟩
 have z3 := m3.size
 have E := E.trans m3
 replace h7_2 := h7_2.off m3 (by omega)
 replace S := S3
 refine ops_nil ?_
 refine run_block ?_
 refine sr_ ?_
 refine oz_ (xeql rfl rfl _ rfl) rfl rfl ?_
 refine ods (fun c15 => ?_) (fun c15 => ?_)
 ·
  refine vn_ rfl rfl rfl ?_
  refine run_cond_t rfl ?_
  refine run_region ?_
  have hl7 := h7_2.len
  refine vm_ rfl rfl rfl ?_
  refine vm_ rfl rfl rfl ?_
  refine vm_ rfl rfl rfl ?_
  refine vm_ rfl rfl rfl ?_
  refine obuild (cs := [.int .i64 r11_0, .int .i64 (-6), .int .i64 (-7), .int .i64 10]) (sz := 1) Tryz.underlying24 inf2 rfl rfl (by decide) rfl rfl (by simp [Value.cells]) rfl rfl rfl ?_
  intro b4 w4 e4 hb4 hz4 O4
  have E := E.trans (Mk.ofExt e4)
  replace S := S.ext e4
  replace h7_2 := h7_2.ext e4
  have G4 : Ow i64c 1 2 w4 b4 (b4 + 1) (some ⟨b4, 0, none⟩) 4 4 ([r11_0, (-6), (-7), 10] : List Int) := Own.ow (by simpa [Question.cells, strc, i64c] using O4) rfl (by omega) (Nat.le_refl _) (by omega) (by intro x hx; rfl)
  refine oc (xcall Tryz.call61 rfl) rfl rfl rfl (l01Pick_ok b cb _ _ _ [r11_0, (-6), (-7), 10] 20 _ S (G4.sl) (by intro x hx; simp only [List.mem_cons, List.not_mem_nil, or_false] at hx; omega) (by omega) (by simp only [pb, Option.getD_some]; omega)) ?_
  rintro _ w5 ⟨r21_0, rfl, h21_0, m5, S5⟩
  have z5 := m5.size
  have E := E.trans m5
  replace h7_2 := h7_2.off m5 (by omega)
  replace S := S5
  have h22 := (h7_2.sl).at (i := r11_0.toNat) (by omega)
  refine oz_ (xindexN (i := r11_0.toNat) Tryz.underlying35 Tryz.sizeOf99 rfl rfl (by omega) ((h7_2.sl).p (i := r11_0.toNat) (by omega)) (by have := (h7_2.sl).len; omega)) rfl rfl ?_
  refine oz_ (xfieldAddr fo99f1 rfl) rfl rfl ?_
  refine ostoreOwF (i := r11_0.toNat) (off := 1) (y := { r7_0[r11_0.toNat]'(by omega) with Yes := r21_0 }) Tryz.sizeOf2 h7_2 (by omega) rfl rfl (by decide) rfl rfl rfl ?_
  intro w6 m6 g6
  have z6 := m6.size
  have E := E.young m6 (by omega)
  replace S := S.off m6 (by omega)
  replace h7_2 := g6
  refine ops_nil ?_
  refine run_inBlock ?_
  refine sr_ ?_
  refine vm_ rfl rfl rfl ?_
  refine vn_ rfl rfl rfl ?_
  refine run_ret Tryz.func63 (res1 rfl rfl) ?_
  exact ⟨_, rfl, _, _, _, _, rfl, set_ok h7_0 (by dsimp only; exact h7_0 _ (List.getElem_mem _)), by omega, h7_2.slF (by omega) (by omega), E, S⟩
 refine vn_ rfl rfl rfl ?_
 refine run_cond_f rfl ?_
 refine sr_ ?_
 refine oz_ (xeql rfl rfl _ rfl) rfl rfl ?_
 refine ods (fun c25 => ?_) (fun c25 => ?_)
 ·
  refine vn_ rfl rfl rfl ?_
  refine run_cond_t rfl ?_
  refine run_region ?_
  have hl7 := h7_2.len
  refine vm_ rfl rfl rfl ?_
  refine vm_ rfl rfl rfl ?_
  refine obuild (cs := [.string ⟨#[97, 99, 116]⟩, .string ⟨#[65, 99, 116]⟩, .string ⟨#[]⟩]) (sz := 1) Tryz.underlying28 inf9 rfl rfl (by decide) rfl rfl (by simp [Value.cells]) rfl rfl rfl ?_
  intro b4 w4 e4 hb4 hz4 O4
  have E := E.trans (Mk.ofExt e4)
  replace S := S.ext e4
  replace h7_2 := h7_2.ext e4
  have G4 : Ow strc 1 9 w4 b4 (b4 + 1) (some ⟨b4, 0, none⟩) 3 3 ([⟨#[97, 99, 116]⟩, ⟨#[65, 99, 116]⟩, ⟨#[]⟩] : List ByteArray) := Own.ow (by simpa [Question.cells, strc, i64c] using O4) rfl (by omega) (Nat.le_refl _) (by omega) (by intro x hx; rfl)
  refine vm_ rfl rfl rfl ?_
  refine oc (xcall Tryz.call60 rfl) rfl rfl rfl (l01Next_ok b cb (3) _ S) ?_
  rintro _ w5 ⟨r30_0, rfl, h30_0, h30_1, m5, S5⟩
  have z5 := m5.size
  have E := E.trans m5
  replace h7_2 := h7_2.off m5 (by omega)
  replace G4 := G4.off m5 (by omega)
  replace S := S5
  have h31 := (G4.sl).at (i := r30_0.toNat) (by show r30_0.toNat < 3; omega)
  refine oz_ (xindexN (i := r30_0.toNat) Tryz.underlying28 Tryz.sizeOf9 rfl rfl (by omega) ((G4.sl).p (i := r30_0.toNat) (by show r30_0.toNat < 3; omega)) (by have := (G4.sl).len; omega)) rfl rfl ?_
  refine oz_ (v := .string (([⟨#[97, 99, 116]⟩, ⟨#[65, 99, 116]⟩, ⟨#[]⟩] : List ByteArray)[r30_0.toNat]'(by show r30_0.toNat < 3; omega))) (xloadz Tryz.isAgg9 rfl (h31) rfl) rfl rfl ?_
  have h33 := (h7_2.sl).at (i := r11_0.toNat) (by omega)
  refine oz_ (xindexN (i := r11_0.toNat) Tryz.underlying35 Tryz.sizeOf99 rfl rfl (by omega) ((h7_2.sl).p (i := r11_0.toNat) (by omega)) (by have := (h7_2.sl).len; omega)) rfl rfl ?_
  refine oz_ (xfieldAddr fo99f0 rfl) rfl rfl ?_
  refine ostoreOwF (i := r11_0.toNat) (off := 0) (y := { r7_0[r11_0.toNat]'(by omega) with Label := ([⟨#[97, 99, 116]⟩, ⟨#[65, 99, 116]⟩, ⟨#[]⟩] : List ByteArray)[r30_0.toNat]'(by show r30_0.toNat < 3; omega) }) Tryz.sizeOf9 h7_2 (by omega) rfl rfl (by decide) rfl rfl rfl ?_
  intro w6 m6 g6
  have z6 := m6.size
  have E := E.young m6 (by omega)
  replace S := S.off m6 (by omega)
  replace h7_2 := g6
  refine ops_nil ?_
  refine run_inBlock ?_
  refine sr_ ?_
  refine vm_ rfl rfl rfl ?_
  refine vn_ rfl rfl rfl ?_
  refine run_ret Tryz.func63 (res1 rfl rfl) ?_
  exact ⟨_, rfl, _, _, _, _, rfl, set_ok h7_0 (by dsimp only; exact (by decide : ∀ x ∈ ([⟨#[97, 99, 116]⟩, ⟨#[65, 99, 116]⟩, ⟨#[]⟩] : List ByteArray), x.size ≤ 100) _ (List.getElem_mem _)), by omega, h7_2.slF (by omega) (by omega), E, S⟩
 refine vn_ rfl rfl rfl ?_
 refine run_cond_f rfl ?_
 refine sr_ ?_
 refine oz_ (xeql rfl rfl _ rfl) rfl rfl ?_
 refine ods (fun c36 => ?_) (fun c36 => ?_)
 ·
  refine vn_ rfl rfl rfl ?_
  refine run_cond_t rfl ?_
  refine sr_ ?_
  have hl7 := h7_2.len
  refine vm_ rfl rfl rfl ?_
  refine oz_ (xslice_h (k := 0) Tryz.underlying35 Tryz.sizeOf99 rfl rfl (by omega) (by have := (h7_2.sl).cap; omega)) rfl rfl ?_
  refine vn_ rfl rfl rfl ?_
  refine run_ret Tryz.func63 (res1 rfl rfl) ?_
  exact ⟨_, rfl, _, _, _, _, rfl, fun x m => by simp at m, by omega, ⟨(h7_2.sl).take (k := 0) (by omega), .inl rfl⟩, E, S⟩
 refine vn_ rfl rfl rfl ?_
 refine run_cond_f rfl ?_
 refine sr_ ?_
 refine oz_ (xeql rfl rfl _ rfl) rfl rfl ?_
 refine ods (fun c40 => ?_) (fun c40 => ?_)
 rotate_left
 ·
  refine vn_ rfl rfl rfl ?_
  refine run_cond_f rfl ?_
  refine run_skip ?_
  refine run_inBlock ?_
  refine sr_ ?_
  refine vm_ rfl rfl rfl ?_
  refine vn_ rfl rfl rfl ?_
  refine run_ret Tryz.func63 (res1 rfl rfl) ?_
  exact ⟨_, rfl, _, _, _, _, rfl, h7_0, by omega, h7_2.slF (by omega) (by omega), E, S⟩
 refine vn_ rfl rfl rfl ?_
 refine run_cond_t rfl ?_
 refine sr_ ?_
 refine vm_ rfl rfl rfl ?_
 refine oz_ (xlen Tryz.underlying35 rfl) rfl rfl ?_
 refine vn_ rfl rfl rfl ?_
 refine run_block ?_
 refine run_loop (ι := Nat × Option Addr × Nat × Nat × List Question × World) (fun x_ => match x_ with | (k, q_3, m_3, c_3, ys_3, wr) => (Mk b (b + 1) w wr) ∧ (Src wr b cb) ∧ (Ow Question.cells 3 99 wr w.heap.size wr.heap.size q_3 m_3 c_3 ys_3) ∧ (w.heap.size ≤ wr.heap.size) ∧ (w3.heap.size ≤ wr.heap.size) ∧ (k ≤ 11) ∧ (m_3 = k) ∧ (∀ x ∈ ys_3, x.Label.size ≤ 100)) (fun x_ => match x_ with | (k, q_3, m_3, c_3, ys_3, wr) => [(0, .pointer (some ⟨b, 0, none⟩)), (3, .slice q_3 m_3 c_3), (5, .int .i64 (k : Int))]) (fun x_ => match x_ with | (k, q_3, m_3, c_3, ys_3, wr) => wr) (fun x_ => match x_ with | (k, q_3, m_3, c_3, ys_3, wr) => 11 - k) ?_ (r7_2, r7_1, r7_2, r7_3, r7_0, w3) (⟨E, S, h7_2.wide (by omega) (by omega), by omega, Nat.le_refl _, by omega, rfl, h7_0⟩) ⟨rfl, rfl, rfl, trivial⟩ rfl
 intro i_ hI_ hback12
 obtain ⟨k, q_3, m_3, c_3, ys_3, wr⟩ := i_
 obtain ⟨E, S, G_3, lo_3, lz_wr, hk, hm3, hall⟩ := hI_
 try dsimp only
 have zr := E.size
 have lg_3 := G_3.len
 refine run_seq ?_
 refine sr_ ?_
 refine vm_ rfl rfl rfl ?_
 refine vm_ rfl rfl rfl ?_
 refine oc (xcall Tryz.call60 rfl) rfl rfl rfl (l01Next_ok b cb (2) _ S) ?_
 rintro _ w4 ⟨r45_0, rfl, h45_0, h45_1, m4, S4⟩
 have z4 := m4.size
 have E := E.trans m4
 replace G_3 := G_3.off m4 (by omega)
 replace S := S4
 refine oz_ (xadd rfl rfl (by unfold I64; omega)) rfl rfl ?_
 refine oz_ (xlss rfl rfl _ rfl) rfl rfl ?_
 refine ods (fun c47 => ?_) (fun c47 => ?_)
 rotate_left
 ·
  refine cg_ rfl ?_
  refine run_exit rfl ?_
  refine run_inBlock ?_
  refine sr_ ?_
  refine vm_ rfl rfl rfl ?_
  refine vn_ rfl rfl rfl ?_
  refine run_ret Tryz.func63 (res1 rfl rfl) ?_
  exact ⟨_, rfl, _, _, _, _, rfl, hall, by omega, G_3.slF (by omega) (by omega), E, S⟩
 refine ct_ rfl ?_
 refine run_skip ?_
 refine run_seq ?_
 refine run_block ?_
 refine run_region ?_
 refine vm_ rfl rfl rfl ?_
 refine vm_ rfl rfl rfl ?_
 refine vm_ rfl rfl rfl ?_
 refine oz_ (xadd rfl rfl (by unfold I64; omega)) rfl rfl ?_
 refine oz_ (xsliceS Tryz.underlying9 rfl rfl rfl (by omega) (by omega) (by show _ ≤ ((12 : Nat) : Int); omega)) rfl rfl ?_
 refine oz_ (xsadd rfl rfl (by have h1 := ext_size ⟨#[97, 98, 99, 100, 101, 102, 103, 104, 105, 106, 107, 108]⟩ (Int.toNat (k : Int)) (Int.toNat ((k : Int) + 1)); have h2 : (⟨#[120]⟩ : ByteArray).size = 1 := rfl; omega)) rfl rfl ?_
 refine oz_ (xbuild (vs := [.string (⟨#[120]⟩ ++ (ByteArray.extract ⟨#[97, 98, 99, 100, 101, 102, 103, 104, 105, 106, 107, 108]⟩ (Int.toNat (k : Int)) (Int.toNat ((k : Int) + 1)))), .int .i64 (-1), .int .i64 (-2)]) (cells := #[.string (⟨#[120]⟩ ++ (ByteArray.extract ⟨#[97, 98, 99, 100, 101, 102, 103, 104, 105, 106, 107, 108]⟩ (Int.toNat (k : Int)) (Int.toNat ((k : Int) + 1)))), .int .i64 (-1), .int .i64 (-2)]) rfl (by kernel_rfl)) rfl rfl ?_
 refine obuild (cs := [.string (⟨#[120]⟩ ++ (ByteArray.extract ⟨#[97, 98, 99, 100, 101, 102, 103, 104, 105, 106, 107, 108]⟩ (Int.toNat (k : Int)) (Int.toNat ((k : Int) + 1)))), .int .i64 (-1), .int .i64 (-2)]) (sz := 3) Tryz.underlying35 inf99 rfl rfl (by decide) rfl rfl (by simp [Value.cells]) rfl rfl rfl ?_
 intro b5 w5 e5 hb5 hz5 O5
 have E := E.trans (Mk.ofExt e5)
 replace G_3 := G_3.ext e5
 replace S := S.ext e5
 refine oappT (bytes := 32) (nm := (m_3 + 1)) G_3 rfl rfl elem99 (Own.sl1 (y := (⟨((⟨#[120]⟩ : ByteArray) ++ (ByteArray.extract ⟨#[97, 98, 99, 100, 101, 102, 103, 104, 105, 106, 107, 108]⟩ (Int.toNat (k : Int)) (Int.toNat ((k : Int) + 1)))), (-1), (-2)⟩ : Question)) O5) (by intro h; cases h) (by intro y hy; rfl) (by intro y hy u hu; rw [List.mem_singleton] at hy; subst hy; revert u; simp [Value.oneCell', Question.cells, strc, i64c]) (by omega) (by omega) (by omega) (by omega) rfl rfl ?_
 intro p6 c6_ w6 m6 k6 G6
 have hz6 := m6.size
 have E := E.young m6 (by omega)
 replace S := S.off m6 (by omega)
 refine vn_ rfl rfl rfl ?_
 refine run_inBlock ?_
 refine run_region ?_
 refine vm_ rfl rfl rfl ?_
 refine oz_ (xadd rfl rfl (by unfold I64; omega)) rfl rfl ?_
 refine vn_ rfl rfl rfl ?_
 refine run_sub ?_ (hback12 (k + 1, p6, (m_3 + 1), c6_, _, w6) (⟨E, S, G6.wide (by omega) (by omega), by omega, by omega, by omega, by omega, ok_app hall (by dsimp only; rw [ByteArray.size_append]; have := ext_size ⟨#[97, 98, 99, 100, 101, 102, 103, 104, 105, 106, 107, 108]⟩ (Int.toNat (k : Int)) (Int.toNat ((k : Int) + 1)); have : (⟨#[120]⟩ : ByteArray).size = 1 := rfl; omega)⟩) (by first | omega | (dsimp only; omega)))
 exact ⟨rfl, rfl, rfl, trivial⟩
end Go.Proofs.YtchblgaklknkcaaGreat
namespace Go.Proofs.YtchblgaklknkcaaGreat
open Go.RowKit
set_option linter.unusedVariables false
set_option linter.unusedSimpArgs false
set_option linter.unusedSectionVars false
set_option maxRecDepth 4000
set_option maxHeartbeats 400000 in
theorem likeInts_ok (p q : Option Addr) (n c m d : Nat) (xs : List Int) (w : World) (H : Sl i64c 1 w p n c xs) (K : Sl i64c 1 w q m d xs) : Ret Tryz.prog 31 [.slice p n c, .slice q m d] w (Pv w (.bool true)) := by
 refine ret_of_run (N := 26) Tryz.func31 rfl rfl rfl ?_
 have hn := H.len
 have hm := K.len
 have hn6 := H.n64
 have E : Ext w w := Ext.refl w
 refine sr_ ?_
 refine vn_ rfl rfl rfl ?_
 refine run_seq ?_
 refine sr_ ?_
 refine vm_ rfl rfl rfl ?_
 refine oz_ (xlen Tryz.underlying24 rfl) rfl rfl ?_
 refine vm_ rfl rfl rfl ?_
 refine oz_ (xlen Tryz.underlying24 rfl) rfl rfl ?_
 refine oz_ (xneq rfl rfl _ rfl) rfl rfl ?_
 refine ods (fun c10 => ?_) (fun c10 => ?_)
 ·
  exfalso; omega
 refine cf_ rfl ?_
 refine run_seq ?_
 refine sr_ ?_
 refine vn_ rfl rfl rfl ?_
 refine run_block ?_
 refine run_loop (ι := Nat × World) (fun x_ => match x_ with | (k, wr) => (Ext w wr) ∧ (w.heap.size ≤ wr.heap.size) ∧ (k ≤ n)) (fun x_ => match x_ with | (k, wr) => [(0, .slice p n c), (1, .slice q m d), (5, .int .i64 (k : Int))]) (fun x_ => match x_ with | (k, wr) => wr) (fun x_ => match x_ with | (k, wr) => n - k) ?_ (0, w) (⟨E, Nat.le_refl _, by omega⟩) ⟨rfl, rfl, rfl, trivial⟩ rfl
 intro i_ hI_ hback4
 obtain ⟨k, wr⟩ := i_
 obtain ⟨E, lz_wr, hk⟩ := hI_
 try dsimp only
 have zr := E.size
 refine run_seq ?_
 refine sr_ ?_
 refine vm_ rfl rfl rfl ?_
 refine vm_ rfl rfl rfl ?_
 refine oz_ (xlen Tryz.underlying24 rfl) rfl rfl ?_
 refine oz_ (xlss rfl rfl _ rfl) rfl rfl ?_
 refine ods (fun c14 => ?_) (fun c14 => ?_)
 rotate_left
 ·
  refine cg_ rfl ?_
  refine run_exit rfl ?_
  refine sr_ ?_
  refine vn_ rfl rfl rfl ?_
  refine run_ret Tryz.func31 (res1 rfl rfl) ?_
  exact ⟨_, rfl, rfl, E⟩
 refine ct_ rfl ?_
 refine run_skip ?_
 refine run_seq ?_
 refine run_block ?_
 refine run_seq ?_
 refine run_draw (by kernel_rfl) (by kernel_rfl) ?_
 refine qv (fun w' x_ => xmove rfl) rfl rfl rfl ?_
 refine qv (fun w' x_ => xmove rfl) rfl rfl rfl ?_
 have h19 := (H.ext E).at (i := k) (by omega)
 refine qv (fun w' x_ => xindexN (i := k) Tryz.underlying24 Tryz.sizeOf2 rfl rfl rfl ((H.ext E).p (i := k) (by omega)) (by have := (H.ext E).len; omega)) rfl rfl rfl ?_
 refine qv (v := .int .i64 xs[k]) (fun w' x_ => xloadz Tryz.isAgg2 rfl ((h19).ext x_) rfl) rfl rfl rfl ?_
 refine qv (fun w' x_ => xmove rfl) rfl rfl rfl ?_
 refine qv (fun w' x_ => xmove rfl) rfl rfl rfl ?_
 have h23 := (K.ext E).at (i := k) (by omega)
 refine qv (fun w' x_ => xindexN (i := k) Tryz.underlying24 Tryz.sizeOf2 rfl rfl rfl ((K.ext E).p (i := k) (by omega)) (by have := (K.ext E).len; omega)) rfl rfl rfl ?_
 refine qv (v := .int .i64 xs[k]) (fun w' x_ => xloadz Tryz.isAgg2 rfl ((h23).ext x_) rfl) rfl rfl rfl ?_
 refine qv (fun w' x_ => xneq rfl rfl _ rfl) rfl rfl rfl ?_
 refine qds (fun c25 => ?_) (fun c25 => ?_)
 ·
  exfalso; omega
 refine q_nil ?_
 intro w1 e1
 have z1 := e1.size
 have E := E.trans e1
 refine run_cond_f rfl ?_
 refine run_skip ?_
 refine run_inBlock ?_
 refine run_region ?_
 refine vm_ rfl rfl rfl ?_
 refine oz_ (xadd rfl rfl (by unfold I64; omega)) rfl rfl ?_
 refine vn_ rfl rfl rfl ?_
 refine run_sub ?_ (hback4 (k + 1, w1) (⟨E, by omega, by omega⟩) (by first | omega | (dsimp only; omega)))
 exact ⟨rfl, rfl, rfl, trivial⟩
end Go.Proofs.YtchblgaklknkcaaGreat
