/-
  Draws of ties and parties. No condition beyond those written in each theorem.
-/
import Derived.Test.YtchblgaklknkcaaGreatRDraw
namespace Go.Proofs.YtchblgaklknkcaaGreat
open Go.RowKit
set_option linter.unusedVariables false
set_option linter.unusedSimpArgs false
set_option linter.unusedSectionVars false
set_option maxRecDepth 4000
set_option maxHeartbeats 2000000 in
theorem l13Tie_ok (b cb : Nat) (w : World) (S : Src w b cb) : Ret Tryz.prog 89 [.pointer (some ⟨b, 0, none⟩)] w (fun v w' => ∃ t : Tie, v = .agg #[.int .i64 t.Number, .string t.Party, .int .i64 t.Kind, .bool t.Fair] ∧ t.Party.size ≤ 100 ∧ Mk b (b + 1) w w' ∧ Src w' b cb) := by
 refine ret_of_run (N := 18) Tryz.func89 rfl rfl rfl ?_
 have hbl := S.lt
 have hcb := S.cb
 have E : Mk b (b + 1) w w := Mk.refl _ _ _
 refine sr_ ?_
 refine oalloc Tryz.zeroValue110 rfl rfl ?_
 intro b1 w1 e1 hb1 hz1 O1
 have E := E.trans (Mk.ofExt e1)
 replace S := S.ext e1
 replace O1 : Own w1 b1 [.int .i64 0, .string ⟨#[]⟩, .int .i64 0, .bool false] 110 := O1
 refine ops_nil ?_
 refine run_seq ?_
 refine run_rg (τ := [(0, .pointer (some ⟨b, 0, none⟩)), (2, .pointer (some ⟨b1, 0, none⟩))]) 15 [3, 4, 5, 6, 7, 8, 9, 10, 11, 12, 13, 14, 15, 16, 17] (fun u_ => Mk b (b + 1) w1 u_ ∧ Src u_ b cb) (fun i_ => Mk b (b + 1)) (fun i_ v_ u_ => match i_ with | 0 => v_ = .pointer (some ⟨b, 0, none⟩) | 1 => ∃ (y0_ : Int), v_ = .int .i64 y0_ ∧ (0 ≤ y0_) ∧ ((y0_ < 12 ∨ y0_ = 0)) | 2 => ∃ (y0_ : Int), v_ = .int .i64 (1 + y0_) ∧ (0 ≤ y0_) ∧ ((y0_ < 12 ∨ y0_ = 0)) | 3 => ∃ (y0_ : Nat), v_ = .slice (some ⟨y0_, 0, none⟩) 3 3 ∧ (w1.heap.size ≤ y0_) ∧ (Sl strc 1 u_ (some ⟨y0_, 0, none⟩) 3 3 ([⟨#[98, 101, 114, 103]⟩, ⟨#[115, 116, 101, 105, 110]⟩, ⟨#[116, 97, 108]⟩] : List ByteArray)) | 4 => v_ = .pointer (some ⟨b, 0, none⟩) | 5 => ∃ (y0_ : Int), v_ = .int .i64 y0_ ∧ (0 ≤ y0_) ∧ ((y0_ < 3 ∨ y0_ = 0)) | 6 => ∃ (y0_ : Nat) (y1_ : Nat) (y2_ : ByteArray), v_ = .pointer (some ⟨y0_, y1_, none⟩) ∧ (b < y0_) ∧ (Cells u_ y0_ y1_ [.string y2_]) ∧ ((y2_).size ≤ 5) | 7 => ∃ (y0_ : ByteArray), v_ = .string y0_ ∧ ((y0_).size ≤ 5) | 8 => v_ = .pointer (some ⟨b, 0, none⟩) | 9 => ∃ (y0_ : Nat), v_ = .slice (some ⟨y0_, 0, none⟩) 5 5 ∧ (w1.heap.size ≤ y0_) ∧ (Sl i64c 1 u_ (some ⟨y0_, 0, none⟩) 5 5 ([0, 1, 2, 3, 3] : List Int)) | 10 => ∃ (y0_ : Int), v_ = .int .i64 y0_ ∧ (-3 ≤ y0_ ∧ y0_ ≤ 3) | 11 => v_ = .pointer (some ⟨b, 0, none⟩) | 12 => ∃ (y0_ : Int), v_ = .int .i64 y0_ ∧ (0 ≤ y0_) ∧ ((y0_ < 2 ∨ y0_ = 0)) | 13 => ∃ (y0_ : Int), v_ = .bool (decide (y0_ = 0)) ∧ (0 ≤ y0_) ∧ ((y0_ < 2 ∨ y0_ = 0)) | 14 => ∃ (y0_ : Int) (y1_ : ByteArray) (y2_ : Int) (y3_ : Int), v_ = .agg #[.int .i64 (1 + y0_), .string y1_, .int .i64 y2_, .bool (decide (y3_ = 0))] ∧ (0 ≤ y0_) ∧ ((y0_ < 12 ∨ y0_ = 0)) ∧ ((y1_).size ≤ 5) ∧ (-3 ≤ y2_ ∧ y2_ ≤ 3) ∧ (0 ≤ y3_) ∧ ((y3_ < 2 ∨ y3_ = 0)) | _ => True) [(14, some 17)] (by kernel_rfl) (by kernel_rfl) (by kernel_rfl) (by kernel_rfl) (by kernel_rfl) (by kernel_rfl) ⟨rfl, rfl, trivial⟩ rfl (fun u_ e_ z_ => ⟨Mk.ofExt e_, S.ext e_⟩) ?_ ?_ ?_
 ·
  intro i_ j_ hi_ hj_ hij_ v_ u_ u2_ I_ I2_ r_ g_
  have zu_ := I_.1.size
  clear hi_
  rcases (by omega : j_ = 0 ∨ j_ = 1 ∨ j_ = 2 ∨ j_ = 3 ∨ j_ = 4 ∨ j_ = 5 ∨ j_ = 6 ∨ j_ = 7 ∨ j_ = 8 ∨ j_ = 9 ∨ j_ = 10 ∨ j_ = 11 ∨ j_ = 12 ∨ j_ = 13 ∨ j_ = 14) with rfl | rfl | rfl | rfl | rfl | rfl | rfl | rfl | rfl | rfl | rfl | rfl | rfl | rfl | rfl
  ·
   exact g_
  ·
   exact g_
  ·
   exact g_
  ·
   obtain ⟨g6_0, rfl, f6_0, f6_1⟩ := g_
   exact ⟨g6_0, rfl, f6_0, f6_1.off r_ (by simp only [pb, Option.getD_some]; omega)⟩
  ·
   exact g_
  ·
   exact g_
  ·
   obtain ⟨g9_0, g9_1, g9_2, rfl, f9_0, f9_1, f9_2⟩ := g_
   exact ⟨g9_0, g9_1, g9_2, rfl, f9_0, r_.cells f9_1 (by omega), f9_2⟩
  ·
   exact g_
  ·
   exact g_
  ·
   obtain ⟨g12_0, rfl, f12_0, f12_1⟩ := g_
   exact ⟨g12_0, rfl, f12_0, f12_1.off r_ (by simp only [pb, Option.getD_some]; omega)⟩
  ·
   exact g_
  ·
   exact g_
  ·
   exact g_
  ·
   exact g_
  exact g_
 ·
  refine rga [] (by kernel_rfl) ?_ ?_
  ·
   intro u_ I_
   have zu_ := I_.1.size
   refine rg_val (xmove rfl) rfl I_ (Mk.refl _ _ _) rfl
  refine rga [(0, some 3)] (by kernel_rfl) ?_ ?_
  ·
   rintro u_ I_ _ rfl
   have zu_ := I_.1.size
   refine rg_call (xcall Tryz.call60 rfl) rfl (l01Next_ok b cb (12) _ I_.2) ?_
   rintro _ w_ ⟨r_0, rfl, h_0, h_1, m_, S_⟩
   exact ⟨⟨I_.1.trans m_, S_⟩, m_, ⟨r_0, rfl, h_0, h_1⟩⟩
  refine rga [(1, some 4)] (by kernel_rfl) ?_ ?_
  ·
   rintro u_ I_ _ ⟨g4_0, rfl, f4_0, f4_1⟩
   have zu_ := I_.1.size
   refine rg_val (xadd rfl rfl (by unfold I64; omega)) rfl I_ (Mk.refl _ _ _) ⟨g4_0, rfl, f4_0, f4_1⟩
  refine rga [] (by kernel_rfl) ?_ ?_
  ·
   intro u_ I_
   have zu_ := I_.1.size
   refine rg_build (len := 3) (vs := [.string ⟨#[98, 101, 114, 103]⟩, .string ⟨#[115, 116, 101, 105, 110]⟩, .string ⟨#[116, 97, 108]⟩]) (cs := [.string ⟨#[98, 101, 114, 103]⟩, .string ⟨#[115, 116, 101, 105, 110]⟩, .string ⟨#[116, 97, 108]⟩]) (sz := 1) Tryz.underlying28 inf9 rfl rfl (by decide) (by rfl) (by rfl) (by simp [Value.cells]) rfl rfl ?_
   intro b_ w_ e_ hb_ O_
   refine ⟨⟨I_.1.trans (Mk.ofExt e_), I_.2.ext e_⟩, Mk.ofExt e_, ⟨b_, rfl, (by omega), (Own.ow (lo := b_) (hi := b_ + 1) (enc := strc) (sz := 1) (xs := ([⟨#[98, 101, 114, 103]⟩, ⟨#[115, 116, 101, 105, 110]⟩, ⟨#[116, 97, 108]⟩] : List ByteArray)) (n := 3) (by simpa [strc] using O_) rfl (by omega) (Nat.le_refl _) (by omega) (by intro x hx; rfl)).sl⟩⟩
  refine rga [] (by kernel_rfl) ?_ ?_
  ·
   intro u_ I_
   have zu_ := I_.1.size
   refine rg_val (xmove rfl) rfl I_ (Mk.refl _ _ _) rfl
  refine rga [(4, some 7)] (by kernel_rfl) ?_ ?_
  ·
   rintro u_ I_ _ rfl
   have zu_ := I_.1.size
   refine rg_call (xcall Tryz.call60 rfl) rfl (l01Next_ok b cb (3) _ I_.2) ?_
   rintro _ w_ ⟨r_0, rfl, h_0, h_1, m_, S_⟩
   exact ⟨⟨I_.1.trans m_, S_⟩, m_, ⟨r_0, rfl, h_0, h_1⟩⟩
  refine rga [(3, some 6), (5, some 8)] (by kernel_rfl) ?_ ?_
  ·
   rintro u_ I_ _ ⟨g6_0, rfl, f6_0, f6_1⟩ _ ⟨g8_0, rfl, f8_0, f8_1⟩
   have zu_ := I_.1.size
   have hh_ := (f6_1).at (i := (g8_0).toNat) (by show (g8_0).toNat < 3; omega)
   refine rg_val (xindexN (i := (g8_0).toNat) Tryz.underlying28 Tryz.sizeOf9 rfl rfl (by omega) ((f6_1).p (i := (g8_0).toNat) (by show (g8_0).toNat < 3; omega)) (by omega)) rfl I_ (Mk.refl _ _ _) ?_
   exact ⟨_, _, _, rfl, by simp only [pb, Option.getD_some]; omega, hh_, (by decide : ∀ x ∈ ([⟨#[98, 101, 114, 103]⟩, ⟨#[115, 116, 101, 105, 110]⟩, ⟨#[116, 97, 108]⟩] : List ByteArray), x.size ≤ 5) _ (List.getElem_mem _)⟩
  refine rga [(6, some 9)] (by kernel_rfl) ?_ ?_
  ·
   rintro u_ I_ _ ⟨g9_0, g9_1, g9_2, rfl, f9_0, f9_1, f9_2⟩
   have zu_ := I_.1.size
   refine rg_val (xloadz Tryz.isAgg9 rfl f9_1 rfl) rfl I_ (Mk.refl _ _ _) ⟨g9_2, rfl, f9_2⟩
  refine rga [] (by kernel_rfl) ?_ ?_
  ·
   intro u_ I_
   have zu_ := I_.1.size
   refine rg_val (xmove rfl) rfl I_ (Mk.refl _ _ _) rfl
  refine rga [] (by kernel_rfl) ?_ ?_
  ·
   intro u_ I_
   have zu_ := I_.1.size
   refine rg_build (len := 5) (vs := [.int .i64 0, .int .i64 1, .int .i64 2, .int .i64 3, .int .i64 3]) (cs := [.int .i64 0, .int .i64 1, .int .i64 2, .int .i64 3, .int .i64 3]) (sz := 1) Tryz.underlying24 inf2 rfl rfl (by decide) (by rfl) (by rfl) (by simp [Value.cells]) rfl rfl ?_
   intro b_ w_ e_ hb_ O_
   refine ⟨⟨I_.1.trans (Mk.ofExt e_), I_.2.ext e_⟩, Mk.ofExt e_, ⟨b_, rfl, (by omega), (Own.ow (lo := b_) (hi := b_ + 1) (enc := i64c) (sz := 1) (xs := ([0, 1, 2, 3, 3] : List Int)) (n := 5) (by simpa [i64c] using O_) rfl (by omega) (Nat.le_refl _) (by omega) (by intro x hx; rfl)).sl⟩⟩
  refine rga [(8, some 11), (9, some 12)] (by kernel_rfl) ?_ ?_
  ·
   rintro u_ I_ _ rfl _ ⟨g12_0, rfl, f12_0, f12_1⟩
   have zu_ := I_.1.size
   refine rg_call (xcall Tryz.call61 rfl) rfl (l01Pick_ok b cb _ _ _ ([0, 1, 2, 3, 3] : List Int) 3 _ I_.2 f12_1 (by decide) (by omega) (by simp only [pb, Option.getD_some]; omega)) ?_
   rintro _ w_ ⟨r_0, rfl, h_0, m_, S_⟩
   exact ⟨⟨I_.1.trans m_, S_⟩, m_, ⟨r_0, rfl, h_0⟩⟩
  refine rga [] (by kernel_rfl) ?_ ?_
  ·
   intro u_ I_
   have zu_ := I_.1.size
   refine rg_val (xmove rfl) rfl I_ (Mk.refl _ _ _) rfl
  refine rga [(11, some 14)] (by kernel_rfl) ?_ ?_
  ·
   rintro u_ I_ _ rfl
   have zu_ := I_.1.size
   refine rg_call (xcall Tryz.call60 rfl) rfl (l01Next_ok b cb (2) _ I_.2) ?_
   rintro _ w_ ⟨r_0, rfl, h_0, h_1, m_, S_⟩
   exact ⟨⟨I_.1.trans m_, S_⟩, m_, ⟨r_0, rfl, h_0, h_1⟩⟩
  refine rga [(12, some 15)] (by kernel_rfl) ?_ ?_
  ·
   rintro u_ I_ _ ⟨g15_0, rfl, f15_0, f15_1⟩
   have zu_ := I_.1.size
   refine rg_val (xeql rfl rfl _ rfl) rfl I_ (Mk.refl _ _ _) ⟨g15_0, rfl, f15_0, f15_1⟩
  refine rga [(2, some 5), (7, some 10), (10, some 13), (13, some 16)] (by kernel_rfl) ?_ ?_
  ·
   rintro u_ I_ _ ⟨g5_0, rfl, f5_0, f5_1⟩ _ ⟨g10_0, rfl, f10_0⟩ _ ⟨g13_0, rfl, f13_0⟩ _ ⟨g16_0, rfl, f16_0, f16_1⟩
   have zu_ := I_.1.size
   refine rg_val (xbuild (vs := [.int .i64 (1 + g5_0), .string g10_0, .int .i64 g13_0, .bool (decide (g16_0 = 0))]) (cells := #[.int .i64 (1 + g5_0), .string g10_0, .int .i64 g13_0, .bool (decide (g16_0 = 0))]) rfl (by kernel_rfl)) rfl I_ (Mk.refl _ _ _) ⟨g5_0, g10_0, g13_0, g16_0, rfl, f5_0, f5_1, f10_0, f13_0, f16_0, f16_1⟩
  exact rga_nil
 rintro w2 I_ _ ⟨g17_0, g17_1, g17_2, g17_3, rfl, f17_0, f17_1, f17_2, f17_3, f17_4, f17_5⟩
 have m2 := I_.1
 have z2 := m2.size
 have E := E.trans m2
 replace S := I_.2
 replace O1 := m2.own O1 (by omega)
 refine ostoreN (vs := _) Tryz.sizeOf110 rfl rfl O1 rfl (by simp) (by simp [Value.oneCell']) rfl ?_
 intro w3 on3 O3
 have hz3 := on3.size
 have E : Mk b (b + 1) w w3 := by first | exact E.trans (Mk.ofOnly on3 (by omega) (by omega)) | exact E.young (Mk.ofOnly on3 (Nat.le_refl _) (Nat.lt_succ_self _)) (by omega)
 replace S := S.off (Mk.ofOnly on3 (Nat.le_refl _) (Nat.lt_succ_self _)) (by omega)
 replace O3 : Own w3 b1 [.int .i64 (1 + g17_0), .string g17_1, .int .i64 g17_2, .bool (decide (g17_3 = 0))] 110 := O3
 refine ops_nil ?_
 refine run_ret Tryz.func89 (resc1 rfl rfl (run_loadVar_cells Tryz.isAgg110 Tryz.sizeOf110 O3.cells rfl)) ?_
 exact ⟨_, rfl, ⟨_, _, _, _⟩, rfl, (by dsimp only; omega), E, S⟩
set_option maxHeartbeats 8000000 in
theorem l13Ties_ok (b cb : Nat) (w : World) (S : Src w b cb) : Ret Tryz.prog 48 [.pointer (some ⟨b, 0, none⟩)] w (fun v w' => ∃ (ts : List Tie) (q : Option Addr) (m d : Nat), v = .slice q m d ∧ (∀ t ∈ ts, t.Party.size ≤ 9223372036854775807) ∧ SlF Tie.cells 4 w' w.heap.size w'.heap.size q m d ts ∧ Mk b (b + 1) w w' ∧ Src w' b cb) := by
 refine ret_of_run (N := 62) Tryz.func48 rfl rfl rfl ?_
 have hbl := S.lt
 have hcb := S.cb
 have E : Mk b (b + 1) w w := Mk.refl _ _ _
 refine sr_ ?_
 refine vn_ rfl rfl rfl ?_
 refine sr_ ?_
 refine obuild (cs := []) (sz := 4) Tryz.underlying27 inf110 rfl rfl (by decide) rfl rfl (by simp [Value.cells]) rfl rfl rfl ?_
 intro b1 w1 e1 hb1 hz1 O1
 have E := E.trans (Mk.ofExt e1)
 replace S := S.ext e1
 have G1 : Ow Tie.cells 4 110 w1 b1 (b1 + 1) (some ⟨b1, 0, none⟩) 0 0 ([] : List Tie) := Own.ow (by simpa [Tie.cells, i64c] using O1) rfl (by omega) (Nat.le_refl _) (by omega) (by intro x hx; rfl)
 refine vn_ rfl rfl rfl ?_
 refine run_seq ?_
 refine sr_ ?_
 refine vm_ rfl rfl rfl ?_
 refine oc (xcall Tryz.call60 rfl) rfl rfl rfl (l01Next_ok b cb (8) _ S) ?_
 rintro _ w2 ⟨r9_0, rfl, h9_0, h9_1, m2, S2⟩
 have z2 := m2.size
 have E := E.trans m2
 replace G1 := G1.off m2 (by omega)
 replace S := S2
 refine vn_ rfl rfl rfl ?_
 refine run_block ?_
 refine run_loop (ι := Nat × Int × Option Addr × Nat × Nat × List Tie × World) (fun x_ => match x_ with | (j, nn, q, m, d, zs, wr) => (Mk b (b + 1) w wr) ∧ (Src wr b cb) ∧ (Ow Tie.cells 4 110 wr b1 wr.heap.size q m d zs) ∧ (w2.heap.size ≤ wr.heap.size) ∧ ((j : Int) + nn ≤ 8) ∧ (0 ≤ nn) ∧ (m ≤ j) ∧ (∀ t ∈ zs, t.Party.size ≤ 100)) (fun x_ => match x_ with | (j, nn, q, m, d, zs, wr) => [(0, .pointer (some ⟨b, 0, none⟩)), (3, .slice q m d), (4, .int .i64 nn)]) (fun x_ => match x_ with | (j, nn, q, m, d, zs, wr) => wr) (fun x_ => match x_ with | (j, nn, q, m, d, zs, wr) => nn.toNat) ?_ (0, r9_0, (some ⟨b1, 0, none⟩), 0, 0, [], w2) (⟨E, S, G1.wide (by omega) (by omega), Nat.le_refl _, by omega, by omega, Nat.le_refl _, (by intro x hx; cases hx)⟩) ⟨rfl, rfl, rfl, trivial⟩ rfl
 intro i_ hI_ hback3
 obtain ⟨j, nn, q, m, d, zs, wr⟩ := i_
 obtain ⟨E, S, GO, lz_wr, hj, hn0, hmj, hall⟩ := hI_
 try dsimp only
 have zr := E.size
 refine run_seq ?_
 refine sr_ ?_
 refine vm_ rfl rfl rfl ?_
 refine oz_ (xgtr rfl rfl _ rfl) rfl rfl ?_
 refine ods (fun c11 => ?_) (fun c11 => ?_)
 ·
  refine ct_ rfl ?_
  refine run_skip ?_
  refine run_seq ?_
  refine run_block ?_
  refine sr_ ?_
  refine obuild (cs := []) (sz := 4) Tryz.underlying27 inf110 rfl rfl (by decide) rfl rfl (by simp [Value.cells]) rfl rfl rfl ?_
  intro b3 w3 e3 hb3 hz3 O3
  have E := E.trans (Mk.ofExt e3)
  replace S := S.ext e3
  replace GO := GO.ext e3
  have G3 : Ow Tie.cells 4 110 w3 b3 (b3 + 1) (some ⟨b3, 0, none⟩) 0 0 ([] : List Tie) := Own.ow (by simpa [Tie.cells, i64c] using O3) rfl (by omega) (Nat.le_refl _) (by omega) (by intro x hx; rfl)
  refine vm_ rfl rfl rfl ?_
  refine oapp (bytes := 40) (nm := m) G3 rfl rfl elem110 (GO.sl) (ow_nil GO) (by intro y hy; rfl) (by intro y hy u hu; simp only [Tie.cells, List.mem_cons, List.not_mem_nil, or_false] at hu; rcases hu with rfl | rfl | rfl | rfl <;> rfl) (by omega) (by omega) (by omega) (by omega) rfl rfl ?_
  intro p4 c4_ w4 m4 G4
  have hz4 := m4.size
  have E := E.young m4 (by omega)
  replace S := S.off m4 (by omega)
  replace GO := GO.off m4 (by omega)
  refine vm_ rfl rfl rfl ?_
  refine oc (xcall Tryz.call89 rfl) rfl rfl rfl (l13Tie_ok b cb _ S) ?_
  rintro _ w5 ⟨r18_0, rfl, h18_0, m5, S5⟩
  have z5 := m5.size
  have E := E.trans m5
  replace GO := GO.off m5 (by omega)
  replace G4 := G4.off m5 (by omega)
  replace S := S5
  refine obuild (cs := [.int .i64 (r18_0).Number, .string (r18_0).Party, .int .i64 (r18_0).Kind, .bool (r18_0).Fair]) (sz := 4) Tryz.underlying27 inf110 rfl rfl (by decide) rfl rfl (by simp [Value.cells]) rfl rfl rfl ?_
  intro b6 w6 e6 hb6 hz6 O6
  have E := E.trans (Mk.ofExt e6)
  replace S := S.ext e6
  replace GO := GO.ext e6
  replace G4 := G4.ext e6
  refine oapp (bytes := 40) (nm := (m + 1)) G4 rfl rfl elem110 (Own.sl1 (y := r18_0) O6) (by intro h; cases h) (by intro y hy; rfl) (by intro y hy u hu; rw [List.mem_singleton] at hy; subst hy; revert u; simp [Value.oneCell', Tie.cells, i64c]) (by omega) (by omega) (by omega) (by omega) rfl rfl ?_
  intro p7 c7_ w7 m7 G7
  have hz7 := m7.size
  have E := E.young m7 (by omega)
  replace S := S.off m7 (by omega)
  replace GO := GO.off m7 (by omega)
  refine vn_ rfl rfl rfl ?_
  refine sr_ ?_
  refine vm_ rfl rfl rfl ?_
  refine oc (xcall Tryz.call90 rfl) rfl rfl rfl (sAreTies_ok _ _ _ _ _ (G7.sl) (fun x hm => by have := ok_app3 (fun y (hy : y ∈ [] ++ zs) => hall y (by simpa using hy)) h18_0 x hm; omega)) ?_
  rintro _ w8 ⟨rfl, e8⟩
  have z8 := e8.size
  have E := E.trans (Mk.ofExt e8)
  replace S := S.ext e8
  replace GO := GO.ext e8
  replace G7 := G7.ext e8
  refine obs (fun c22 => ?_) (fun c22 => ?_)
  ·
   refine ct_ rfl ?_
   refine run_region ?_
   refine vm_ rfl rfl rfl ?_
   refine vn_ rfl rfl rfl ?_
   refine run_inBlock ?_
   refine run_region ?_
   refine vm_ rfl rfl rfl ?_
   refine oz_ (xsub rfl rfl (by unfold I64; omega)) rfl rfl ?_
   refine vn_ rfl rfl rfl ?_
   refine run_sub ?_ (hback3 (j + 1, nn - 1, p7, (m + 1), c7_, _, w8) (⟨E, S, G7.wide (by omega) (by omega), by omega, by omega, by omega, by omega, ok_app3 (fun y hy => hall y (by simpa using hy)) h18_0⟩) (by first | omega | (dsimp only; omega)))
   exact ⟨rfl, rfl, rfl, trivial⟩
  refine cf_ rfl ?_
  refine run_inBlock ?_
  refine run_region ?_
  refine vm_ rfl rfl rfl ?_
  refine oz_ (xsub rfl rfl (by unfold I64; omega)) rfl rfl ?_
  refine vn_ rfl rfl rfl ?_
  refine run_sub ?_ (hback3 (j + 1, nn - 1, q, m, d, _, w8) (⟨E, S, GO.wide (by omega) (by omega), by omega, by omega, by omega, by omega, hall⟩) (by first | omega | (dsimp only; omega)))
  exact ⟨rfl, rfl, rfl, trivial⟩
 refine cg_ rfl ?_
 refine run_exit rfl ?_
 refine run_seq ?_
 refine sr_ ?_
 refine vm_ rfl rfl rfl ?_
 refine oc (xcall Tryz.call60 rfl) rfl rfl rfl (l01Next_ok b cb (24) _ S) ?_
 rintro _ w3 ⟨r25_0, rfl, h25_0, h25_1, m3, S3⟩
 have z3 := m3.size
 have E := E.trans m3
 replace GO := GO.off m3 (by omega)
 replace S := S3
 refine ops_nil ?_
 refine run_block ?_
 refine sr_ ?_
 refine oz_ (xeql rfl rfl _ rfl) rfl rfl ?_
 refine ods (fun c27 => ?_) (fun c27 => ?_)
 ·
  refine vn_ rfl rfl rfl ?_
  refine run_cond_t rfl ?_
  refine run_region ?_
  refine vm_ rfl rfl rfl ?_
  refine vm_ rfl rfl rfl ?_
  refine obuild (cs := [.int .i64 0, .int .i64 1000000, .int .i64 1000001]) (sz := 1) Tryz.underlying24 inf2 rfl rfl (by decide) rfl rfl (by simp [Value.cells]) rfl rfl rfl ?_
  intro b4 w4 e4 hb4 hz4 O4
  have E := E.trans (Mk.ofExt e4)
  replace S := S.ext e4
  replace GO := GO.ext e4
  have G4 : Ow i64c 1 2 w4 b4 (b4 + 1) (some ⟨b4, 0, none⟩) 3 3 ([0, 1000000, 1000001] : List Int) := Own.ow (by simpa [Tie.cells, i64c] using O4) rfl (by omega) (Nat.le_refl _) (by omega) (by intro x hx; rfl)
  refine oc (xcall Tryz.call61 rfl) rfl rfl rfl (l01Pick_ok b cb _ _ _ ([0, 1000000, 1000001] : List Int) 1000001 _ S (G4.sl) (by decide) (by omega) (by simp only [pb, Option.getD_some]; omega)) ?_
  rintro _ w5 ⟨r31_0, rfl, h31_0, m5, S5⟩
  have z5 := m5.size
  have E := E.trans m5
  replace GO := GO.off m5 (by omega)
  replace S := S5
  refine oz_ (xbuild (vs := [.int .i64 r31_0, .string ⟨#[116, 97, 108]⟩]) (cells := #[.int .i64 r31_0, .string ⟨#[116, 97, 108]⟩, .int .i64 0, .bool false]) rfl (by kernel_rfl)) rfl rfl ?_
  refine obuild (cs := [.int .i64 r31_0, .string ⟨#[116, 97, 108]⟩, .int .i64 0, .bool false]) (sz := 4) Tryz.underlying27 inf110 rfl rfl (by decide) rfl rfl (by simp [Value.cells]) rfl rfl rfl ?_
  intro b6 w6 e6 hb6 hz6 O6
  have E := E.trans (Mk.ofExt e6)
  replace S := S.ext e6
  replace GO := GO.ext e6
  refine oapp (bytes := 40) (nm := (m + 1)) GO rfl rfl elem110 (Own.sl1 (y := (⟨(r31_0), (⟨#[116, 97, 108]⟩), (0), false⟩ : Tie)) O6) (by intro h; cases h) (by intro y hy; rfl) (by intro y hy u hu; rw [List.mem_singleton] at hy; subst hy; revert u; simp [Value.oneCell', Tie.cells, i64c]) (by omega) (by omega) (by omega) (by omega) rfl rfl ?_
  intro p7 c7_ w7 m7 G7
  have hz7 := m7.size
  have E := E.young m7 (by omega)
  replace S := S.off m7 (by omega)
  refine vn_ rfl rfl rfl ?_
  refine run_inBlock ?_
  refine sr_ ?_
  refine vm_ rfl rfl rfl ?_
  refine vn_ rfl rfl rfl ?_
  refine run_ret Tryz.func48 (res1 rfl rfl) ?_
  exact ⟨_, rfl, _, _, _, _, rfl, (fun x hm => by have := (ok_app3 hall (by dsimp only; decide)) x hm; omega), (G7.slF (by omega) (by omega)), E, S⟩
 refine vn_ rfl rfl rfl ?_
 refine run_cond_f rfl ?_
 refine sr_ ?_
 refine oz_ (xeql rfl rfl _ rfl) rfl rfl ?_
 refine ods (fun c36 => ?_) (fun c36 => ?_)
 ·
  refine vn_ rfl rfl rfl ?_
  refine run_cond_t rfl ?_
  refine run_region ?_
  refine vm_ rfl rfl rfl ?_
  refine vm_ rfl rfl rfl ?_
  refine oc (xcall Tryz.call91 rfl) rfl rfl rfl (l01DrawWord_ok b cb _ S) ?_
  rintro _ w4 ⟨r39_0, rfl, h39_0, m4, S4⟩
  have z4 := m4.size
  have E := E.trans m4
  replace GO := GO.off m4 (by omega)
  replace S := S4
  refine vm_ rfl rfl rfl ?_
  refine oc (xcall Tryz.call60 rfl) rfl rfl rfl (l01Next_ok b cb (6) _ S) ?_
  rintro _ w5 ⟨r41_0, rfl, h41_0, h41_1, m5, S5⟩
  have z5 := m5.size
  have E := E.trans m5
  replace GO := GO.off m5 (by omega)
  replace S := S5
  refine oz_ (xsub rfl rfl (by unfold I64; omega)) rfl rfl ?_
  refine oz_ (xbuild (vs := [.int .i64 7, .string r39_0, .int .i64 (r41_0 - 1)]) (cells := #[.int .i64 7, .string r39_0, .int .i64 (r41_0 - 1), .bool false]) rfl (by kernel_rfl)) rfl rfl ?_
  refine obuild (cs := [.int .i64 7, .string r39_0, .int .i64 (r41_0 - 1), .bool false]) (sz := 4) Tryz.underlying27 inf110 rfl rfl (by decide) rfl rfl (by simp [Value.cells]) rfl rfl rfl ?_
  intro b6 w6 e6 hb6 hz6 O6
  have E := E.trans (Mk.ofExt e6)
  replace S := S.ext e6
  replace GO := GO.ext e6
  refine oapp (bytes := 40) (nm := (m + 1)) GO rfl rfl elem110 (Own.sl1 (y := (⟨(7), (r39_0), ((r41_0 - 1)), false⟩ : Tie)) O6) (by intro h; cases h) (by intro y hy; rfl) (by intro y hy u hu; rw [List.mem_singleton] at hy; subst hy; revert u; simp [Value.oneCell', Tie.cells, i64c]) (by omega) (by omega) (by omega) (by omega) rfl rfl ?_
  intro p7 c7_ w7 m7 G7
  have hz7 := m7.size
  have E := E.young m7 (by omega)
  replace S := S.off m7 (by omega)
  refine vn_ rfl rfl rfl ?_
  refine run_inBlock ?_
  refine sr_ ?_
  refine vm_ rfl rfl rfl ?_
  refine vn_ rfl rfl rfl ?_
  refine run_ret Tryz.func48 (res1 rfl rfl) ?_
  exact ⟨_, rfl, _, _, _, _, rfl, (fun x hm => by have := (ok_app3 hall (by dsimp only; omega)) x hm; omega), (G7.slF (by omega) (by omega)), E, S⟩
 refine vn_ rfl rfl rfl ?_
 refine run_cond_f rfl ?_
 refine sr_ ?_
 refine oz_ (xeql rfl rfl _ rfl) rfl rfl ?_
 refine ods (fun c47 => ?_) (fun c47 => ?_)
 rotate_left
 ·
  refine vn_ rfl rfl rfl ?_
  refine run_cond_f rfl ?_
  refine run_skip ?_
  refine run_inBlock ?_
  refine sr_ ?_
  refine vm_ rfl rfl rfl ?_
  refine vn_ rfl rfl rfl ?_
  refine run_ret Tryz.func48 (res1 rfl rfl) ?_
  exact ⟨_, rfl, _, _, _, _, rfl, (fun x hm => by have := (hall) x hm; omega), (GO.slF (by omega) (by omega)), E, S⟩
 refine vn_ rfl rfl rfl ?_
 refine run_cond_t rfl ?_
 refine sr_ ?_
 refine vn_ rfl rfl rfl ?_
 refine run_block ?_
 refine run_loop (ι := Int × Option Addr × Nat × Nat × List Tie × World) (fun x_ => match x_ with | (k, q2, m2, d2, zs2, wr2) => (Mk b (b + 1) w wr2) ∧ (Src wr2 b cb) ∧ (Ow Tie.cells 4 110 wr2 b1 wr2.heap.size q2 m2 d2 zs2) ∧ (w3.heap.size ≤ wr2.heap.size) ∧ (k = 100 + m2 - m) ∧ (m2 ≤ 21) ∧ (∀ t ∈ zs2, t.Party.size ≤ 100)) (fun x_ => match x_ with | (k, q2, m2, d2, zs2, wr2) => [(0, .pointer (some ⟨b, 0, none⟩)), (3, .slice q2 m2 d2), (6, .int .i64 k)]) (fun x_ => match x_ with | (k, q2, m2, d2, zs2, wr2) => wr2) (fun x_ => match x_ with | (k, q2, m2, d2, zs2, wr2) => 22 - m2) ?_ (100, q, m, d, zs, w3) (⟨E, S, GO.wide (by omega) (by omega), Nat.le_refl _, by omega, by omega, hall⟩) ⟨rfl, rfl, rfl, trivial⟩ rfl
 intro i_ hI_ hback15
 obtain ⟨k, q2, m2, d2, zs2, wr2⟩ := i_
 obtain ⟨E, S, GP, lz_wr2, hk, hm2, hall2⟩ := hI_
 try dsimp only
 have zr := E.size
 refine run_seq ?_
 refine sr_ ?_
 refine vm_ rfl rfl rfl ?_
 refine oz_ (xlen Tryz.underlying27 rfl) rfl rfl ?_
 refine vm_ rfl rfl rfl ?_
 refine oc (xcall Tryz.call60 rfl) rfl rfl rfl (l01Next_ok b cb (2) _ S) ?_
 rintro _ w4 ⟨r51_0, rfl, h51_0, h51_1, m4, S4⟩
 have z4 := m4.size
 have E := E.trans m4
 replace GP := GP.off m4 (by omega)
 replace S := S4
 refine oz_ (xadd rfl rfl (by unfold I64; omega)) rfl rfl ?_
 refine oz_ (xlss rfl rfl _ rfl) rfl rfl ?_
 refine ods (fun c53 => ?_) (fun c53 => ?_)
 rotate_left
 ·
  refine cg_ rfl ?_
  refine run_exit rfl ?_
  refine run_inBlock ?_
  refine sr_ ?_
  refine vm_ rfl rfl rfl ?_
  refine vn_ rfl rfl rfl ?_
  refine run_ret Tryz.func48 (res1 rfl rfl) ?_
  exact ⟨_, rfl, _, _, _, _, rfl, (fun x hm => by have := (hall2) x hm; omega), (GP.slF (by omega) (by omega)), E, S⟩
 refine ct_ rfl ?_
 refine run_skip ?_
 refine run_seq ?_
 refine run_block ?_
 refine run_region ?_
 refine vm_ rfl rfl rfl ?_
 refine vm_ rfl rfl rfl ?_
 refine oz_ (xbuild (vs := [.int .i64 k, .string ⟨#[116, 97, 108]⟩]) (cells := #[.int .i64 k, .string ⟨#[116, 97, 108]⟩, .int .i64 0, .bool false]) rfl (by kernel_rfl)) rfl rfl ?_
 refine obuild (cs := [.int .i64 k, .string ⟨#[116, 97, 108]⟩, .int .i64 0, .bool false]) (sz := 4) Tryz.underlying27 inf110 rfl rfl (by decide) rfl rfl (by simp [Value.cells]) rfl rfl rfl ?_
 intro b5 w5 e5 hb5 hz5 O5
 have E := E.trans (Mk.ofExt e5)
 replace S := S.ext e5
 replace GP := GP.ext e5
 refine oapp (bytes := 40) (nm := (m2 + 1)) GP rfl rfl elem110 (Own.sl1 (y := (⟨(k), (⟨#[116, 97, 108]⟩), (0), false⟩ : Tie)) O5) (by intro h; cases h) (by intro y hy; rfl) (by intro y hy u hu; rw [List.mem_singleton] at hy; subst hy; revert u; simp [Value.oneCell', Tie.cells, i64c]) (by omega) (by omega) (by omega) (by omega) rfl rfl ?_
 intro p6 c6_ w6 m6 G6
 have hz6 := m6.size
 have E := E.young m6 (by omega)
 replace S := S.off m6 (by omega)
 refine vn_ rfl rfl rfl ?_
 refine run_inBlock ?_
 refine run_region ?_
 refine vm_ rfl rfl rfl ?_
 refine oz_ (xadd rfl rfl (by unfold I64; omega)) rfl rfl ?_
 refine vn_ rfl rfl rfl ?_
 refine run_sub ?_ (hback15 (k + 1, p6, (m2 + 1), c6_, _, w6) (⟨E, S, G6.wide (by omega) (by omega), by omega, by omega, by omega, ok_app3 hall2 (by dsimp only; decide)⟩) (by first | omega | (dsimp only; omega)))
 exact ⟨rfl, rfl, rfl, trivial⟩
set_option maxHeartbeats 4000000 in
theorem l13Parties_ok (b cb : Nat) (w : World) (S : Src w b cb) : Ret Tryz.prog 49 [.pointer (some ⟨b, 0, none⟩)] w (fun v w' => ∃ (ps : List ByteArray) (q : Option Addr) (m d : Nat), v = .slice q m d ∧ (∀ y ∈ ps, y.size ≤ 9223372036854775807) ∧ SlF strc 1 w' w.heap.size w'.heap.size q m d ps ∧ Mk b (b + 1) w w' ∧ Src w' b cb) := by
 refine ret_of_run (N := 28) Tryz.func49 rfl rfl rfl ?_
 have hbl := S.lt
 have hcb := S.cb
 have E : Mk b (b + 1) w w := Mk.refl _ _ _
 refine sr_ ?_
 refine vn_ rfl rfl rfl ?_
 refine sr_ ?_
 refine obuild (cs := [.string ⟨#[98, 101, 114, 103]⟩, .string ⟨#[115, 116, 101, 105, 110]⟩]) (sz := 1) Tryz.underlying28 inf9 rfl rfl (by decide) rfl rfl (by simp [Value.cells]) rfl rfl rfl ?_
 intro b1 w1 e1 hb1 hz1 O1
 have E := E.trans (Mk.ofExt e1)
 replace S := S.ext e1
 have G1 : Ow strc 1 9 w1 b1 (b1 + 1) (some ⟨b1, 0, none⟩) 2 2 ([⟨#[98, 101, 114, 103]⟩, ⟨#[115, 116, 101, 105, 110]⟩] : List ByteArray) := Own.ow (by simpa [strc] using O1) rfl (by omega) (Nat.le_refl _) (by omega) (by intro x hx; rfl)
 refine vn_ rfl rfl rfl ?_
 refine run_seq ?_
 refine sr_ ?_
 refine vm_ rfl rfl rfl ?_
 refine oc (xcall Tryz.call60 rfl) rfl rfl rfl (l01Next_ok b cb (16) _ S) ?_
 rintro _ w2 ⟨r6_0, rfl, h6_0, h6_1, m2, S2⟩
 have z2 := m2.size
 have E := E.trans m2
 replace G1 := G1.off m2 (by omega)
 replace S := S2
 refine ops_nil ?_
 refine run_block ?_
 refine sr_ ?_
 refine oz_ (xeql rfl rfl _ rfl) rfl rfl ?_
 refine ods (fun c8 => ?_) (fun c8 => ?_)
 ·
  refine vn_ rfl rfl rfl ?_
  refine run_cond_t rfl ?_
  refine sr_ ?_
  refine vm_ rfl rfl rfl ?_
  refine vm_ rfl rfl rfl ?_
  refine oc (xcall Tryz.call60 rfl) rfl rfl rfl (l01Next_ok b cb (2) _ S) ?_
  rintro _ w3 ⟨r11_0, rfl, h11_0, h11_1, m3, S3⟩
  have z3 := m3.size
  have E := E.trans m3
  replace G1 := G1.off m3 (by omega)
  replace S := S3
  refine oz_ (xslice_h (k := r11_0.toNat) Tryz.underlying28 Tryz.sizeOf9 rfl rfl (by omega) (by have := (G1.sl).cap; omega)) rfl rfl ?_
  refine vn_ rfl rfl rfl ?_
  refine run_ret Tryz.func49 (res1 rfl rfl) ?_
  exact ⟨_, rfl, _, _, _, _, rfl, (fun x hm => by have := (fun x hm => (by decide : ∀ x ∈ ([⟨#[98, 101, 114, 103]⟩, ⟨#[115, 116, 101, 105, 110]⟩] : List ByteArray), x.size ≤ 100) x (List.mem_of_mem_take hm)) x hm; omega), ((G1.slF (by omega) (by omega)).take (k := r11_0.toNat) (by omega)), E, S⟩
 refine vn_ rfl rfl rfl ?_
 refine run_cond_f rfl ?_
 refine sr_ ?_
 refine oz_ (xeql rfl rfl _ rfl) rfl rfl ?_
 refine ods (fun c14 => ?_) (fun c14 => ?_)
 ·
  refine vn_ rfl rfl rfl ?_
  refine run_cond_t rfl ?_
  refine sr_ ?_
  refine vm_ rfl rfl rfl ?_
  refine vm_ rfl rfl rfl ?_
  refine oc (xcall Tryz.call91 rfl) rfl rfl rfl (l01DrawWord_ok b cb _ S) ?_
  rintro _ w3 ⟨r17_0, rfl, h17_0, m3, S3⟩
  have z3 := m3.size
  have E := E.trans m3
  replace G1 := G1.off m3 (by omega)
  replace S := S3
  refine obuild (cs := [.string r17_0]) (sz := 1) Tryz.underlying28 inf9 rfl rfl (by decide) rfl rfl (by simp [Value.cells]) rfl rfl rfl ?_
  intro b4 w4 e4 hb4 hz4 O4
  have E := E.trans (Mk.ofExt e4)
  replace S := S.ext e4
  replace G1 := G1.ext e4
  refine oapp (bytes := 16) (nm := 3) G1 rfl rfl elem9 (Own.sl1 (y := r17_0) O4) (by intro h; cases h) (by intro y hy; rfl) (by intro y hy u hu; rw [List.mem_singleton] at hy; subst hy; revert u; simp [Value.oneCell', strc]) (by omega) (by omega) (by omega) (by omega) rfl rfl ?_
  intro p5 c5_ w5 m5 G5
  have hz5 := m5.size
  have E := E.young m5 (by omega)
  replace S := S.off m5 (by omega)
  refine vn_ rfl rfl rfl ?_
  refine run_ret Tryz.func49 (res1 rfl rfl) ?_
  exact ⟨_, rfl, _, _, _, _, rfl, (fun x hm => by have := (ok_app3 (by decide : ∀ x ∈ ([⟨#[98, 101, 114, 103]⟩, ⟨#[115, 116, 101, 105, 110]⟩] : List ByteArray), x.size ≤ 100) (by omega)) x hm; omega), (G5.slF (by omega) (by omega)), E, S⟩
 refine vn_ rfl rfl rfl ?_
 refine run_cond_f rfl ?_
 refine sr_ ?_
 refine oz_ (xeql rfl rfl _ rfl) rfl rfl ?_
 refine ods (fun c21 => ?_) (fun c21 => ?_)
 rotate_left
 ·
  refine vn_ rfl rfl rfl ?_
  refine run_cond_f rfl ?_
  refine run_skip ?_
  refine run_inBlock ?_
  refine sr_ ?_
  refine vm_ rfl rfl rfl ?_
  refine vn_ rfl rfl rfl ?_
  refine run_ret Tryz.func49 (res1 rfl rfl) ?_
  exact ⟨_, rfl, _, _, _, _, rfl, (fun x hm => by have := ((by decide : ∀ x ∈ ([⟨#[98, 101, 114, 103]⟩, ⟨#[115, 116, 101, 105, 110]⟩] : List ByteArray), x.size ≤ 100)) x hm; omega), (G1.slF (by omega) (by omega)), E, S⟩
 refine vn_ rfl rfl rfl ?_
 refine run_cond_t rfl ?_
 refine sr_ ?_
 refine obuild (cs := [.string ⟨#[97]⟩, .string ⟨#[98]⟩, .string ⟨#[99]⟩, .string ⟨#[100]⟩, .string ⟨#[101]⟩, .string ⟨#[102]⟩, .string ⟨#[103]⟩]) (sz := 1) Tryz.underlying28 inf9 rfl rfl (by decide) rfl rfl (by simp [Value.cells]) rfl rfl rfl ?_
 intro b3 w3 e3 hb3 hz3 O3
 have E := E.trans (Mk.ofExt e3)
 replace S := S.ext e3
 have G3 : Ow strc 1 9 w3 b3 (b3 + 1) (some ⟨b3, 0, none⟩) 7 7 ([⟨#[97]⟩, ⟨#[98]⟩, ⟨#[99]⟩, ⟨#[100]⟩, ⟨#[101]⟩, ⟨#[102]⟩, ⟨#[103]⟩] : List ByteArray) := Own.ow (by simpa [strc] using O3) rfl (by omega) (Nat.le_refl _) (by omega) (by intro x hx; rfl)
 refine vm_ rfl rfl rfl ?_
 refine oc (xcall Tryz.call60 rfl) rfl rfl rfl (l01Next_ok b cb (2) _ S) ?_
 rintro _ w4 ⟨r24_0, rfl, h24_0, h24_1, m4, S4⟩
 have z4 := m4.size
 have E := E.trans m4
 replace G3 := G3.off m4 (by omega)
 replace S := S4
 refine oz_ (xadd rfl rfl (by unfold I64; omega)) rfl rfl ?_
 refine oz_ (xslice_h (k := (6 + r24_0).toNat) Tryz.underlying28 Tryz.sizeOf9 rfl rfl (by omega) (by have := (G3.sl).cap; omega)) rfl rfl ?_
 refine vn_ rfl rfl rfl ?_
 refine run_ret Tryz.func49 (res1 rfl rfl) ?_
 exact ⟨_, rfl, _, _, _, _, rfl, (fun x hm => by have := (fun x hm => (by decide : ∀ x ∈ ([⟨#[97]⟩, ⟨#[98]⟩, ⟨#[99]⟩, ⟨#[100]⟩, ⟨#[101]⟩, ⟨#[102]⟩, ⟨#[103]⟩] : List ByteArray), x.size ≤ 100) x (List.mem_of_mem_take hm)) x hm; omega), ((G3.slF (by omega) (by omega)).take (k := (6 + r24_0).toNat) (by omega)), E, S⟩
end Go.Proofs.YtchblgaklknkcaaGreat
