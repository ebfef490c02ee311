/-
  What the laws on exhibits and rulings draw. No condition beyond those written in each theorem.
-/
import Derived.Test.YtnjohcbamblilaaXListDraw
namespace Go.Proofs.Ytnjohcbamblilaa
open Go.RowKit
set_option linter.unusedVariables false
set_option linter.unusedSimpArgs false
set_option linter.unusedSectionVars false
set_option maxRecDepth 4000

theorem rescCTT {σ : Env} {N : Nat} {P : Program} {w : World} {fn : Func} {t ty u r : Nat} {p : Addr} {v x y : Value} (h : fn.results = #[.cell t ty, .tmp u, .tmp r]) (hp : look σ t = some (.pointer (some p))) (hl : (loadVar ty p).run P w = .ok v w) (hx : look σ u = some x) (hy : look σ r = some y) :
    ∀ a, Fits N σ a → (results fn a.tmps).run P w = .ok (.tuple #[v, x, y]) w := fun a ha => by
  simp [results, h, ha.getD hp, ha.getD hx, ha.getD hy, asAddr, hl, - Array.getD_eq_getD_getElem?]
theorem rescCC {σ : Env} {N : Nat} {P : Program} {w : World} {fn : Func} {t ty t2 ty2 : Nat} {p p2 : Addr} {v v2 : Value} (h : fn.results = #[.cell t ty, .cell t2 ty2]) (hp : look σ t = some (.pointer (some p))) (hl : (loadVar ty p).run P w = .ok v w) (hp2 : look σ t2 = some (.pointer (some p2))) (hl2 : (loadVar ty2 p2).run P w = .ok v2 w) :
    ∀ a, Fits N σ a → (results fn a.tmps).run P w = .ok (.tuple #[v, v2]) w := fun a ha => by
  simp [results, h, ha.getD hp, ha.getD hp2, asAddr, hl, hl2, - Array.getD_eq_getD_getElem?]

set_option maxHeartbeats 2000000 in
theorem DrawHoldersOf_ok (p : Option Addr) (n c : Nat) (bs : List Int) (w : World) (H : Sl u8c 1 w p n c bs) (hbs : ∀ x ∈ bs, 0 ≤ x ∧ x ≤ 255) : Ret Try.prog 60 [.slice p n c] w (fun v w' => Ext w w' ∧ ∃ (x : Exhibit) (q : Option Addr) (m d : Nat), v = .agg #[.string x.Code, .string x.Found, .int .i64 x.Day, .int .i64 x.Seal, .slice q m d] ∧ exOk x ∧ m ≤ 13 ∧ Ow Handing.cells 4 77 w' w.heap.size w'.heap.size q m d x.Chain) := by
  refine ret_of_run (N := 6) Try.func60 rfl rfl rfl ?_
  have hfar := H.blk (fun x => by simp [u8c])
  have E : Ext w w := Ext.refl w
  refine run_seq ?_
  refine run_region ?_
  refine oalloc Try.zeroValue49 rfl rfl ?_
  intro b1 w1 e1 hb1 hz1 O1
  have E := E.trans e1
  replace O1 : Own w1 b1 [.string ⟨#[]⟩, .string ⟨#[]⟩, .int .i64 0, .int .i64 0, .slice none 0 0] 49 := O1
  refine ops_nil ?_
  refine run_seq ?_
  refine run_region ?_
  refine ov (xmove rfl) rfl rfl rfl ?_
  refine oc (xcall Try.call112 rfl) rfl rfl rfl (l01From_ok _ _ _ _ _ (H.ext E) (by assumption) w.heap.size hfar (by omega)) ?_
  rintro _ w2 ⟨e2, b4_, rfl, hcb4, S⟩
  have z2 := e2.size
  have E := E.trans e2
  replace O1 := O1.ext e2
  have hcc4 := S.cb
  have hbl4 := S.lt
  refine oc (xcall Try.call113 rfl) rfl rfl rfl (l23Draw_ok b4_ w.heap.size (⟨#[107, 110, 105, 102, 101]⟩) _ S (by first | omega | decide)) ?_
  rintro _ w3 ⟨r5_0, r5_1, r5_2, r5_3, rfl, h5_0, h5_1, h5_2, m3, S3⟩
  have z3 := m3.size
  have E := m3.toExt E (by omega)
  replace O1 := m3.own O1 (by omega)
  replace S := S3
  have h5_2l := h5_2.len
  refine ostoreN (vs := _) Try.sizeOf49 rfl rfl O1 rfl (by simp) (by simp [Value.oneCell']) rfl ?_
  intro w4 on4 O4
  have hz4 := on4.size
  have E := on4.ext E (by omega)
  replace S := S.off (Mk.ofOnly on4 (Nat.le_refl _) (Nat.lt_succ_self _)) (by omega)
  replace h5_2 := h5_2.only on4 (by omega)
  replace O4 : Own w4 b1 [.string (r5_0).Code, .string (r5_0).Found, .int .i64 (r5_0).Day, .int .i64 (r5_0).Seal, .slice r5_1 r5_2 r5_3] 49 := O4
  refine ops_nil ?_
  refine run_ret Try.func60 (resc1 rfl rfl (run_loadVar_cells Try.isAgg49 Try.sizeOf49 O4.cells rfl)) ?_
  exact ⟨_, rfl, E, _, _, _, _, rfl, h5_0, by omega, h5_2.wide (by omega) (by omega)⟩

set_option maxHeartbeats 2000000 in
theorem DrawHolderOn_ok (p : Option Addr) (n c : Nat) (bs : List Int) (w : World) (H : Sl u8c 1 w p n c bs) (hbs : ∀ x ∈ bs, 0 ≤ x ∧ x ≤ 255) : Ret Try.prog 59 [.slice p n c] w (fun v w' => Ext w w' ∧ ∃ (x : Exhibit) (q : Option Addr) (m d : Nat) (k : Int), v = .tuple #[.agg #[.string x.Code, .string x.Found, .int .i64 x.Day, .int .i64 x.Seal, .slice q m d], .int .i64 k] ∧ exOk x ∧ m ≤ 13 ∧ Ow Handing.cells 4 77 w' w.heap.size w'.heap.size q m d x.Chain ∧ (-30000 ≤ k ∧ k ≤ 30000)) := by
  refine ret_of_run (N := 29) Try.func59 rfl rfl rfl ?_
  have hfar := H.blk (fun x => by simp [u8c])
  have E : Ext w w := Ext.refl w
  refine run_seq ?_
  refine run_region ?_
  refine oalloc Try.zeroValue49 rfl rfl ?_
  intro b1 w1 e1 hb1 hz1 O1
  have E := E.trans e1
  replace O1 : Own w1 b1 [.string ⟨#[]⟩, .string ⟨#[]⟩, .int .i64 0, .int .i64 0, .slice none 0 0] 49 := O1
  refine ov (xassign rfl) rfl rfl rfl ?_
  refine ops_nil ?_
  refine run_seq ?_
  refine run_region ?_
  refine ov (xmove rfl) rfl rfl rfl ?_
  refine oc (xcall Try.call112 rfl) rfl rfl rfl (l01From_ok _ _ _ _ _ (H.ext E) (by assumption) w.heap.size hfar (by omega)) ?_
  rintro _ w2 ⟨e2, b7_, rfl, hcb7, S⟩
  have z2 := e2.size
  have E := E.trans e2
  replace O1 := O1.ext e2
  have hcc7 := S.cb
  have hbl7 := S.lt
  refine ov (xassign rfl) rfl rfl rfl ?_
  refine ops_nil ?_
  refine run_seq ?_
  refine run_region ?_
  refine ov (xmove rfl) rfl rfl rfl ?_
  refine oc (xcall Try.call113 rfl) rfl rfl rfl (l23Draw_ok b7_ w.heap.size (⟨#[107, 110, 105, 102, 101]⟩) _ S (by first | omega | decide)) ?_
  rintro _ w3 ⟨r9_0, r9_1, r9_2, r9_3, rfl, h9_0, h9_1, h9_2, m3, S3⟩
  have z3 := m3.size
  have E := m3.toExt E (by omega)
  replace O1 := m3.own O1 (by omega)
  replace S := S3
  have h9_2l := h9_2.len
  have h9_0d := h9_0.2.2.1
  refine oalloc Try.zeroValue49 rfl rfl ?_
  intro b4 w4 e4 hb4 hz4 O4
  have E := E.trans e4
  replace S := S.ext e4
  replace h9_2 := h9_2.ext e4
  replace O1 := O1.ext e4
  replace O4 : Own w4 b4 [.string ⟨#[]⟩, .string ⟨#[]⟩, .int .i64 0, .int .i64 0, .slice none 0 0] 49 := O4
  refine ostoreN (vs := _) Try.sizeOf49 rfl rfl O4 rfl (by simp) (by simp [Value.oneCell']) rfl ?_
  intro w5 on5 O5
  have hz5 := on5.size
  have E := on5.ext E (by omega)
  replace S := S.off (Mk.ofOnly on5 (Nat.le_refl _) (Nat.lt_succ_self _)) (by omega)
  replace h9_2 := h9_2.only on5 (by omega)
  replace O1 := on5.own O1 (by omega)
  replace O5 : Own w5 b4 [.string (r9_0).Code, .string (r9_0).Found, .int .i64 (r9_0).Day, .int .i64 (r9_0).Seal, .slice r9_1 r9_2 r9_3] 49 := O5
  refine ops_nil ?_
  refine run_seq ?_
  refine run_rg (τ := [(2, .pointer (some ⟨b1, 0, none⟩)), (4, .pointer (some ⟨b7_, 0, none⟩)), (5, .pointer (some ⟨b4, 0, none⟩))]) 21 [10, 11, 12, 13, 14, 15, 16, 17, 18, 19, 20, 21, 22, 23, 24, 25, 26, 27, 28, 3] (fun u_ => Mk b1 (b7_ + 1) w5 u_ ∧ Src u_ b7_ w.heap.size ∧ ∃ cs_ : List Value, cs_.length = 5 ∧ Own u_ b1 cs_ 49) (fun i_ => if i_ = 19 then Mk b1 (b1 + 1) else Mk b7_ (b7_ + 1)) (fun i_ v_ u_ => match i_ with | 0 => v_ = .agg #[.string (r9_0).Code, .string (r9_0).Found, .int .i64 (r9_0).Day, .int .i64 (r9_0).Seal, .slice r9_1 r9_2 r9_3] | 1 => v_ = .pointer (some ⟨b7_, 0, none⟩) | 2 => v_ = .pointer (some ⟨b4, 0 + 2, none⟩) | 3 => v_ = .int .i64 (r9_0).Day | 4 => v_ = .pointer (some ⟨b7_, 0, none⟩) | 5 => ∃ (y0_ : Int), v_ = .int .i64 y0_ ∧ 0 ≤ y0_ ∧ (y0_ < 40 ∨ y0_ = 0) | 6 => ∃ (y0_ : Int), v_ = .int .i64 ((r9_0).Day + y0_) ∧ 0 ≤ y0_ ∧ (y0_ < 40 ∨ y0_ = 0) | 7 => v_ = .pointer (some ⟨b4, 0 + 2, none⟩) | 8 => v_ = .int .i64 (r9_0).Day | 9 => v_ = .pointer (some ⟨b7_, 0, none⟩) | 10 => ∃ (y0_ : Int), v_ = .int .i64 y0_ ∧ 0 ≤ y0_ ∧ (y0_ < 40 ∨ y0_ = 0) | 11 => ∃ (y0_ : Int), v_ = .int .i64 ((r9_0).Day + y0_) ∧ 0 ≤ y0_ ∧ (y0_ < 40 ∨ y0_ = 0) | 12 => v_ = .pointer (some ⟨b4, 0 + 2, none⟩) | 13 => v_ = .int .i64 (r9_0).Day | 14 => v_ = .int .i64 ((r9_0).Day - 1) | 15 => v_ = .pointer (some ⟨b4, 0 + 2, none⟩) | 16 => v_ = .int .i64 (r9_0).Day | 17 => ∃ (y0_ : Nat) (y1_ : Int) (y2_ : Int), v_ = .slice (some ⟨y0_, 0, none⟩) 5 5 ∧ w5.heap.size ≤ y0_ ∧ Sl i64c 1 u_ (some ⟨y0_, 0, none⟩) 5 5 [((r9_0).Day + y1_), ((r9_0).Day + y2_), ((r9_0).Day - 1), (r9_0).Day, 20001] ∧ 0 ≤ y1_ ∧ (y1_ < 40 ∨ y1_ = 0) ∧ 0 ≤ y2_ ∧ (y2_ < 40 ∨ y2_ = 0) | 18 => ∃ (y0_ : Int), v_ = .int .i64 y0_ ∧ -30000 ≤ y0_ ∧ y0_ ≤ 30000 | 19 => Own u_ b1 [.string (r9_0).Code, .string (r9_0).Found, .int .i64 (r9_0).Day, .int .i64 (r9_0).Seal, .slice r9_1 r9_2 r9_3] 49 | 20 => ∃ (y0_ : Int), v_ = .int .i64 y0_ ∧ -30000 ≤ y0_ ∧ y0_ ≤ 30000 | _ => True) [(19, none), (20, some 3)] (by kernel_rfl) (by kernel_rfl) (by kernel_rfl) (by kernel_rfl) (by kernel_rfl) (by kernel_rfl) ⟨rfl, rfl, rfl, trivial⟩ rfl (fun u_ e_ z_ => ⟨Mk.ofExt e_, S.ext e_, ⟨_, rfl, O1.ext e_⟩⟩) ?_ ?_ ?_
  · intro i_ j_ hi_ hj_ hij_ v_ u_ u2_ I_ I2_ r_ g_
    have zu_ := I_.1.size
    have rw_ : Mk b1 (b7_ + 1) u_ u2_ := by
      by_cases h_ : i_ = 19
      · simp only [h_, if_true] at r_; exact r_.wide (by omega) (by omega)
      · simp only [h_, if_false] at r_; exact r_.wide (by omega) (by omega)
    have rs_ : i_ ≠ 19 → Mk b7_ (b7_ + 1) u_ u2_ := fun h_ => by simp only [h_, if_false] at r_; exact r_
    clear hi_
    rcases (by omega : j_ = 0 ∨ j_ = 1 ∨ j_ = 2 ∨ j_ = 3 ∨ j_ = 4 ∨ j_ = 5 ∨ j_ = 6 ∨ j_ = 7 ∨ j_ = 8 ∨ j_ = 9 ∨ j_ = 10 ∨ j_ = 11 ∨ j_ = 12 ∨ j_ = 13 ∨ j_ = 14 ∨ j_ = 15 ∨ j_ = 16 ∨ j_ = 17 ∨ j_ = 18 ∨ j_ = 19 ∨ j_ = 20) with rfl | rfl | rfl | rfl | rfl | rfl | rfl | rfl | rfl | rfl | rfl | rfl | rfl | rfl | rfl | rfl | rfl | rfl | rfl | rfl | rfl
    · exact g_
    · exact g_
    · exact g_
    · exact g_
    · exact g_
    · exact g_
    · exact g_
    · exact g_
    · exact g_
    · exact g_
    · exact g_
    · exact g_
    · exact g_
    · exact g_
    · exact g_
    · exact g_
    · exact g_
    · obtain ⟨g27_0, g27_1, g27_2, rfl, f27_0, f27_1, f27_2, f27_3, f27_4, f27_5⟩ := g_
      exact ⟨g27_0, g27_1, g27_2, rfl, f27_0, f27_1.off rw_ (by simp only [pb, Option.getD_some]; omega), f27_2, f27_3, f27_4, f27_5⟩
    · exact g_
    · have f919_0 := g_
      exact (rs_ hij_).own f919_0 (by omega)
    · exact g_
  ·
    refine rga [] (by kernel_rfl) ?_ ?_
    · intro u_ I_
      have zu_ := I_.1.size
      have OB_ := I_.1.own O5 (by omega)
      refine rg_val (xloadN Try.isAgg49 Try.sizeOf49 rfl (OB_.cells) rfl) rfl I_ (by simpa using Mk.refl _ _ _) rfl
    refine rga [] (by kernel_rfl) ?_ ?_
    · intro u_ I_
      have zu_ := I_.1.size
      refine rg_val (xmove rfl) rfl I_ (by simpa using Mk.refl _ _ _) rfl
    refine rga [] (by kernel_rfl) ?_ ?_
    · intro u_ I_
      have zu_ := I_.1.size
      refine rg_val (xfieldAddr fo49f2 rfl) rfl I_ (by simpa using Mk.refl _ _ _) rfl
    refine rga [(2, some 12)] (by kernel_rfl) ?_ ?_
    · rintro u_ I_ _ rfl
      have zu_ := I_.1.size
      have OB_ := I_.1.own O5 (by omega)
      refine rg_val (xload1 Try.isAgg2 rfl (OB_.cells) rfl) rfl I_ (by simpa using Mk.refl _ _ _) rfl
    refine rga [] (by kernel_rfl) ?_ ?_
    · intro u_ I_
      have zu_ := I_.1.size
      refine rg_val (xmove rfl) rfl I_ (by simpa using Mk.refl _ _ _) rfl
    refine rga [(4, some 14)] (by kernel_rfl) ?_ ?_
    · rintro u_ I_ _ rfl
      have zu_ := I_.1.size
      refine rg_call (xcall Try.call114 rfl) rfl (l01Next_ok b7_ w.heap.size (40) _ I_.2.1) ?_
      rintro _ w_ ⟨r_0, rfl, h_0, h_1, m_, S_⟩
      exact ⟨⟨I_.1.trans (m_.wide (by omega) (by omega)), S_, (let ⟨cs_, hl_, ho_⟩ := I_.2.2; ⟨cs_, hl_, m_.own ho_ (by omega)⟩)⟩, (by simpa using m_), ⟨r_0, rfl, h_0, h_1⟩⟩
    refine rga [(3, some 13), (5, some 15)] (by kernel_rfl) ?_ ?_
    · rintro u_ I_ _ rfl _ ⟨g15_0, rfl, f15_0, f15_1⟩
      have zu_ := I_.1.size
      refine rg_val (xadd rfl rfl (by unfold I64; omega)) rfl I_ (by simpa using Mk.refl _ _ _) ⟨g15_0, rfl, f15_0, f15_1⟩
    refine rga [] (by kernel_rfl) ?_ ?_
    · intro u_ I_
      have zu_ := I_.1.size
      refine rg_val (xfieldAddr fo49f2 rfl) rfl I_ (by simpa using Mk.refl _ _ _) rfl
    refine rga [(7, some 17)] (by kernel_rfl) ?_ ?_
    · rintro u_ I_ _ rfl
      have zu_ := I_.1.size
      have OB_ := I_.1.own O5 (by omega)
      refine rg_val (xload1 Try.isAgg2 rfl (OB_.cells) rfl) rfl I_ (by simpa using Mk.refl _ _ _) rfl
    refine rga [] (by kernel_rfl) ?_ ?_
    · intro u_ I_
      have zu_ := I_.1.size
      refine rg_val (xmove rfl) rfl I_ (by simpa using Mk.refl _ _ _) rfl
    refine rga [(9, some 19)] (by kernel_rfl) ?_ ?_
    · rintro u_ I_ _ rfl
      have zu_ := I_.1.size
      refine rg_call (xcall Try.call114 rfl) rfl (l01Next_ok b7_ w.heap.size (40) _ I_.2.1) ?_
      rintro _ w_ ⟨r_0, rfl, h_0, h_1, m_, S_⟩
      exact ⟨⟨I_.1.trans (m_.wide (by omega) (by omega)), S_, (let ⟨cs_, hl_, ho_⟩ := I_.2.2; ⟨cs_, hl_, m_.own ho_ (by omega)⟩)⟩, (by simpa using m_), ⟨r_0, rfl, h_0, h_1⟩⟩
    refine rga [(8, some 18), (10, some 20)] (by kernel_rfl) ?_ ?_
    · rintro u_ I_ _ rfl _ ⟨g20_0, rfl, f20_0, f20_1⟩
      have zu_ := I_.1.size
      refine rg_val (xadd rfl rfl (by unfold I64; omega)) rfl I_ (by simpa using Mk.refl _ _ _) ⟨g20_0, rfl, f20_0, f20_1⟩
    refine rga [] (by kernel_rfl) ?_ ?_
    · intro u_ I_
      have zu_ := I_.1.size
      refine rg_val (xfieldAddr fo49f2 rfl) rfl I_ (by simpa using Mk.refl _ _ _) rfl
    refine rga [(12, some 22)] (by kernel_rfl) ?_ ?_
    · rintro u_ I_ _ rfl
      have zu_ := I_.1.size
      have OB_ := I_.1.own O5 (by omega)
      refine rg_val (xload1 Try.isAgg2 rfl (OB_.cells) rfl) rfl I_ (by simpa using Mk.refl _ _ _) rfl
    refine rga [(13, some 23)] (by kernel_rfl) ?_ ?_
    · rintro u_ I_ _ rfl
      have zu_ := I_.1.size
      refine rg_val (xsub rfl rfl (by unfold I64; omega)) rfl I_ (by simpa using Mk.refl _ _ _) rfl
    refine rga [] (by kernel_rfl) ?_ ?_
    · intro u_ I_
      have zu_ := I_.1.size
      refine rg_val (xfieldAddr fo49f2 rfl) rfl I_ (by simpa using Mk.refl _ _ _) rfl
    refine rga [(15, some 25)] (by kernel_rfl) ?_ ?_
    · rintro u_ I_ _ rfl
      have zu_ := I_.1.size
      have OB_ := I_.1.own O5 (by omega)
      refine rg_val (xload1 Try.isAgg2 rfl (OB_.cells) rfl) rfl I_ (by simpa using Mk.refl _ _ _) rfl
    refine rga [(6, some 16), (11, some 21), (14, some 24), (16, some 26)] (by kernel_rfl) ?_ ?_
    · rintro u_ I_ _ ⟨g16_0, rfl, f16_0, f16_1⟩ _ ⟨g21_0, rfl, f21_0, f21_1⟩ _ rfl _ rfl
      have zu_ := I_.1.size
      refine rg_build (len := 5) (vs := [.int .i64 ((r9_0).Day + g16_0), .int .i64 ((r9_0).Day + g21_0), .int .i64 ((r9_0).Day - 1), .int .i64 (r9_0).Day, .int .i64 20001]) (cs := [.int .i64 ((r9_0).Day + g16_0), .int .i64 ((r9_0).Day + g21_0), .int .i64 ((r9_0).Day - 1), .int .i64 (r9_0).Day, .int .i64 20001]) (sz := 1) Try.underlying55 inf2 rfl rfl (by decide) (by rfl) (by rfl) (by simp [Value.cells]) rfl rfl ?_
      intro b_ w_ e_ hb_ O_
      refine ⟨⟨I_.1.trans (Mk.ofExt e_), I_.2.1.ext e_, (let ⟨cs_, hl_, ho_⟩ := I_.2.2; ⟨cs_, hl_, ho_.ext e_⟩)⟩, (by simpa using Mk.ofExt e_), ⟨b_, g16_0, g21_0, rfl, (by omega), (Own.ow (lo := b_) (hi := b_ + 1) (enc := i64c) (sz := 1) (xs := [((r9_0).Day + g16_0), ((r9_0).Day + g21_0), ((r9_0).Day - 1), (r9_0).Day, 20001]) (n := 5) (by simpa [i64c] using O_) rfl (by omega) (Nat.le_refl _) (by omega) (by intro x hx; rfl)).sl, f16_0, f16_1, f21_0, f21_1⟩⟩
    refine rga [(1, some 11), (17, some 27)] (by kernel_rfl) ?_ ?_
    · rintro u_ I_ _ rfl _ ⟨g27_0, g27_1, g27_2, rfl, f27_0, f27_1, f27_2, f27_3, f27_4, f27_5⟩
      have zu_ := I_.1.size
      refine rg_call (xcall Try.call115 rfl) rfl (l01Pick_ok b7_ w.heap.size _ _ _ [(r9_0.Day + g27_1), (r9_0.Day + g27_2), (r9_0.Day - 1), r9_0.Day, 20001] 30000 _ I_.2.1 f27_1 (by intro x hx; simp only [List.mem_cons, List.not_mem_nil, or_false] at hx; omega) (by omega) (by simp only [pb, Option.getD_some]; omega)) ?_
      rintro _ w_ ⟨r_0, rfl, h_0, m_, S_⟩
      exact ⟨⟨I_.1.trans (m_.wide (by omega) (by omega)), S_, (let ⟨cs_, hl_, ho_⟩ := I_.2.2; ⟨cs_, hl_, m_.own ho_ (by omega)⟩)⟩, (by simpa using m_), ⟨r_0, rfl, h_0⟩⟩
    refine rga [(0, some 10)] (by kernel_rfl) ?_ ?_
    · rintro u_ I_ _ rfl
      have zu_ := I_.1.size
      obtain ⟨I1_, I2_, cs_, hl_, ho_⟩ := I_
      refine rg_storeN (vs := [.string (r9_0).Code, .string (r9_0).Found, .int .i64 (r9_0).Day, .int .i64 (r9_0).Seal, .slice r9_1 r9_2 r9_3]) Try.sizeOf49 rfl rfl ho_ rfl hl_ (by simp [Value.oneCell']) rfl ?_
      intro w_ on_ o_
      refine ⟨⟨I1_.trans (Mk.ofOnly on_ (by omega) (by omega)), I2_.off (Mk.ofOnly on_ (Nat.le_refl _) (Nat.lt_succ_self _)) (by omega), ⟨_, rfl, o_⟩⟩, (by simpa using Mk.ofOnly on_ (Nat.le_refl _) (Nat.lt_succ_self _)), o_⟩
    refine rga [(18, some 28)] (by kernel_rfl) ?_ ?_
    · rintro u_ I_ _ ⟨g28_0, rfl, f28_0⟩
      have zu_ := I_.1.size
      refine rg_val (xassign rfl) rfl I_ (by simpa using Mk.refl _ _ _) ⟨g28_0, rfl, f28_0⟩
    exact rga_nil
  ·
    rintro w6 I_ _ f919_0 _ ⟨g3_0, rfl, f3_0⟩
    have m6 := I_.1
    have z6 := m6.size
    have E := m6.toExt E (by omega)
    replace S := I_.2.1
    replace h9_2 := h9_2.off m6 (by omega)
    replace O5 := m6.own O5 (by omega)
    refine ops_nil ?_
    refine run_ret Try.func59 (resc2 rfl rfl (run_loadVar_cells Try.isAgg49 Try.sizeOf49 f919_0.cells rfl) rfl) ?_
    exact ⟨_, rfl, E, _, _, _, _, _, rfl, h9_0, by omega, h9_2.wide (by omega) (by omega), by omega⟩

set_option maxHeartbeats 2000000 in
theorem DrawDaysHeld_ok (p : Option Addr) (n c : Nat) (bs : List Int) (w : World) (H : Sl u8c 1 w p n c bs) (hbs : ∀ x ∈ bs, 0 ≤ x ∧ x ≤ 255) : Ret Try.prog 45 [.slice p n c] w (fun v w' => Ext w w' ∧ ∃ (x : Exhibit) (q : Option Addr) (m d : Nat) (s : ByteArray) (k : Int), v = .tuple #[.agg #[.string x.Code, .string x.Found, .int .i64 x.Day, .int .i64 x.Seal, .slice q m d], .string s, .int .i64 k] ∧ exOk x ∧ m ≤ 13 ∧ Ow Handing.cells 4 77 w' w.heap.size w'.heap.size q m d x.Chain ∧ (-30000 ≤ k ∧ k ≤ 30000)) := by
  refine ret_of_run (N := 50) Try.func45 rfl rfl rfl ?_
  have hfar := H.blk (fun x => by simp [u8c])
  have E : Ext w w := Ext.refl w
  refine run_seq ?_
  refine run_region ?_
  refine oalloc Try.zeroValue49 rfl rfl ?_
  intro b1 w1 e1 hb1 hz1 O1
  have E := E.trans e1
  replace O1 : Own w1 b1 [.string ⟨#[]⟩, .string ⟨#[]⟩, .int .i64 0, .int .i64 0, .slice none 0 0] 49 := O1
  refine ov (xassign rfl) rfl rfl rfl ?_
  refine ov (xassign rfl) rfl rfl rfl ?_
  refine ops_nil ?_
  refine run_seq ?_
  refine run_region ?_
  refine ov (xmove rfl) rfl rfl rfl ?_
  refine oc (xcall Try.call112 rfl) rfl rfl rfl (l01From_ok _ _ _ _ _ (H.ext E) (by assumption) w.heap.size hfar (by omega)) ?_
  rintro _ w2 ⟨e2, b9_, rfl, hcb9, S⟩
  have z2 := e2.size
  have E := E.trans e2
  replace O1 := O1.ext e2
  have hcc9 := S.cb
  have hbl9 := S.lt
  refine ov (xassign rfl) rfl rfl rfl ?_
  refine ops_nil ?_
  refine run_seq ?_
  refine run_region ?_
  refine ov (xmove rfl) rfl rfl rfl ?_
  refine oc (xcall Try.call113 rfl) rfl rfl rfl (l23Draw_ok b9_ w.heap.size (⟨#[107, 110, 105, 102, 101]⟩) _ S (by first | omega | decide)) ?_
  rintro _ w3 ⟨r11_0, r11_1, r11_2, r11_3, rfl, h11_0, h11_1, h11_2, m3, S3⟩
  have z3 := m3.size
  have E := m3.toExt E (by omega)
  replace O1 := m3.own O1 (by omega)
  replace S := S3
  have h11_2l := h11_2.len
  have h11_0d := h11_0.2.2.1
  refine oalloc Try.zeroValue49 rfl rfl ?_
  intro b4 w4 e4 hb4 hz4 O4
  have E := E.trans e4
  replace S := S.ext e4
  replace h11_2 := h11_2.ext e4
  replace O1 := O1.ext e4
  replace O4 : Own w4 b4 [.string ⟨#[]⟩, .string ⟨#[]⟩, .int .i64 0, .int .i64 0, .slice none 0 0] 49 := O4
  refine ostoreN (vs := _) Try.sizeOf49 rfl rfl O4 rfl (by simp) (by simp [Value.oneCell']) rfl ?_
  intro w5 on5 O5
  have hz5 := on5.size
  have E := on5.ext E (by omega)
  replace S := S.off (Mk.ofOnly on5 (Nat.le_refl _) (Nat.lt_succ_self _)) (by omega)
  replace h11_2 := h11_2.only on5 (by omega)
  replace O1 := on5.own O1 (by omega)
  replace O5 : Own w5 b4 [.string (r11_0).Code, .string (r11_0).Found, .int .i64 (r11_0).Day, .int .i64 (r11_0).Seal, .slice r11_1 r11_2 r11_3] 49 := O5
  refine ops_nil ?_
  refine run_seq ?_
  refine run_region ?_
  refine ov (xfieldAddr fo49f1 rfl) rfl rfl rfl ?_
  refine ov (v := .string (r11_0).Found) (xload1 Try.isAgg9 rfl (O5.cells) rfl) rfl rfl rfl ?_
  refine ov (xassign rfl) rfl rfl rfl ?_
  refine ops_nil ?_
  refine run_seq ?_
  refine run_seq ?_
  refine run_region ?_
  refine ov (xfieldAddr fo49f4 rfl) rfl rfl rfl ?_
  refine ov (v := .slice r11_1 r11_2 r11_3) (xload1 Try.isAgg47 rfl (O5.cells) rfl) rfl rfl rfl ?_
  refine ov (xlen Try.underlying47 rfl) rfl rfl rfl ?_
  refine ov (xgtr rfl rfl _ rfl) rfl rfl rfl ?_
  refine ods (fun c17 => ?_) (fun c17 => ?_)
  ·
    refine ov (xmove rfl) rfl rfl rfl ?_
    refine ov (xmove rfl) rfl rfl rfl ?_
    refine oc (xcall Try.call114 rfl) rfl rfl rfl (l01Next_ok b9_ w.heap.size (3) _ S) ?_
    rintro _ w6 ⟨r20_0, rfl, h20_0, h20_1, m6, S6⟩
    have z6 := m6.size
    have E := m6.toExt E (by omega)
    replace h11_2 := h11_2.off m6 (by omega)
    replace O1 := m6.own O1 (by omega)
    replace O5 := m6.own O5 (by omega)
    replace S := S6
    refine ov (xgtr rfl rfl _ rfl) rfl rfl rfl ?_
    refine ods (fun c21 => ?_) (fun c21 => ?_)
    ·
      refine ov (xpick_t rfl rfl) rfl rfl rfl ?_
      refine ops_nil ?_
      refine run_cond_t rfl ?_
      refine run_rg (τ := [(2, .pointer (some ⟨b1, 0, none⟩)), (5, .pointer (some ⟨b9_, 0, none⟩)), (6, .pointer (some ⟨b4, 0, none⟩))]) 11 [23, 24, 25, 26, 27, 28, 29, 30, 31, 32, 7] (fun u_ => Mk b9_ (b9_ + 1) w6 u_ ∧ Src u_ b9_ w.heap.size) (fun i_ => Mk b9_ (b9_ + 1)) (fun i_ v_ u_ => match i_ with | 0 => v_ = .pointer (some ⟨b4, 0 + 4, none⟩) | 1 => v_ = .slice r11_1 r11_2 r11_3 | 2 => v_ = .pointer (some ⟨b9_, 0, none⟩) | 3 => v_ = .pointer (some ⟨b4, 0 + 4, none⟩) | 4 => v_ = .slice r11_1 r11_2 r11_3 | 5 => v_ = .int .i64 (r11_2 : Int) | 6 => ∃ (y0_ : Int), v_ = .int .i64 y0_ ∧ 0 ≤ y0_ ∧ (y0_ < (r11_2 : Int) ∨ y0_ = 0) | 7 => ∃ (y0_ : Int), v_ = .pointer (some ⟨pb r11_1, po r11_1 + y0_.toNat * 4, none⟩) ∧ 0 ≤ y0_ ∧ (y0_ < (r11_2 : Int) ∨ y0_ = 0) | 8 => ∃ (y0_ : Int), v_ = .pointer (some ⟨pb r11_1, po r11_1 + y0_.toNat * 4 + 2, none⟩) ∧ 0 ≤ y0_ ∧ (y0_ < (r11_2 : Int) ∨ y0_ = 0) | 9 => ∃ (y0_ : ByteArray), v_ = .string y0_ | 10 => ∃ (y0_ : ByteArray), v_ = .string y0_ | _ => True) [(10, some 7)] (by kernel_rfl) (by kernel_rfl) (by kernel_rfl) (by kernel_rfl) (by kernel_rfl) (by kernel_rfl) ⟨rfl, rfl, rfl, trivial⟩ rfl (fun u_ e_ z_ => ⟨Mk.ofExt e_, S.ext e_⟩) ?_ ?_ ?_
      · intro i_ j_ hi_ hj_ hij_ v_ u_ u2_ I_ I2_ r_ g_
        have zu_ := I_.1.size
        clear hi_
        rcases (by omega : j_ = 0 ∨ j_ = 1 ∨ j_ = 2 ∨ j_ = 3 ∨ j_ = 4 ∨ j_ = 5 ∨ j_ = 6 ∨ j_ = 7 ∨ j_ = 8 ∨ j_ = 9 ∨ j_ = 10) with rfl | rfl | rfl | rfl | rfl | rfl | rfl | rfl | rfl | rfl | rfl
        · exact g_
        · exact g_
        · exact g_
        · exact g_
        · exact g_
        · exact g_
        · exact g_
        · exact g_
        · exact g_
        · exact g_
        · exact g_
      ·
        refine rga [] (by kernel_rfl) ?_ ?_
        · intro u_ I_
          have zu_ := I_.1.size
          refine rg_val (xfieldAddr fo49f4 rfl) rfl I_ (Mk.refl _ _ _) rfl
        refine rga [(0, some 23)] (by kernel_rfl) ?_ ?_
        · rintro u_ I_ _ rfl
          have zu_ := I_.1.size
          have OB_ := I_.1.own O5 (by omega)
          refine rg_val (xload1 Try.isAgg47 rfl (OB_.cells) rfl) rfl I_ (Mk.refl _ _ _) rfl
        refine rga [] (by kernel_rfl) ?_ ?_
        · intro u_ I_
          have zu_ := I_.1.size
          refine rg_val (xmove rfl) rfl I_ (Mk.refl _ _ _) rfl
        refine rga [] (by kernel_rfl) ?_ ?_
        · intro u_ I_
          have zu_ := I_.1.size
          refine rg_val (xfieldAddr fo49f4 rfl) rfl I_ (Mk.refl _ _ _) rfl
        refine rga [(3, some 26)] (by kernel_rfl) ?_ ?_
        · rintro u_ I_ _ rfl
          have zu_ := I_.1.size
          have OB_ := I_.1.own O5 (by omega)
          refine rg_val (xload1 Try.isAgg47 rfl (OB_.cells) rfl) rfl I_ (Mk.refl _ _ _) rfl
        refine rga [(4, some 27)] (by kernel_rfl) ?_ ?_
        · rintro u_ I_ _ rfl
          have zu_ := I_.1.size
          refine rg_val (xlen Try.underlying47 rfl) rfl I_ (Mk.refl _ _ _) rfl
        refine rga [(2, some 25), (5, some 28)] (by kernel_rfl) ?_ ?_
        · rintro u_ I_ _ rfl _ rfl
          have zu_ := I_.1.size
          refine rg_call (xcall Try.call114 rfl) rfl (l01Next_ok b9_ w.heap.size ((r11_2 : Int)) _ I_.2) ?_
          rintro _ w_ ⟨r_0, rfl, h_0, h_1, m_, S_⟩
          exact ⟨⟨I_.1.trans m_, S_⟩, m_, ⟨r_0, rfl, h_0, h_1⟩⟩
        refine rga [(1, some 24), (6, some 29)] (by kernel_rfl) ?_ ?_
        · rintro u_ I_ _ rfl _ ⟨g29_0, rfl, f29_0, f29_1⟩
          have zu_ := I_.1.size
          have h11_2 := h11_2.off I_.1 (by omega)
          have hl_ := h11_2.len
          refine rg_val (xindexN (i := g29_0.toNat) Try.underlying47 Try.sizeOf77 rfl rfl (by omega) ((h11_2.sl).p (i := g29_0.toNat) (by omega)) (by omega)) rfl I_ (Mk.refl _ _ _) ⟨g29_0, rfl, f29_0, f29_1⟩
        refine rga [(7, some 30)] (by kernel_rfl) ?_ ?_
        · rintro u_ I_ _ ⟨g30_0, rfl, f30_0, f30_1⟩
          have zu_ := I_.1.size
          refine rg_val (xfieldAddr fo77f2 rfl) rfl I_ (Mk.refl _ _ _) ⟨g30_0, rfl, f30_0, f30_1⟩
        refine rga [(8, some 31)] (by kernel_rfl) ?_ ?_
        · rintro u_ I_ _ ⟨g31_0, rfl, f31_0, f31_1⟩
          have zu_ := I_.1.size
          have h11_2 := h11_2.off I_.1 (by omega)
          have hl_ := h11_2.len
          have hh_ := (h11_2.sl).at (i := g31_0.toNat) (by omega)
          refine rg_val (xload1 Try.isAgg9 rfl (hh_) rfl) rfl I_ (Mk.refl _ _ _) ⟨_, rfl⟩
        refine rga [(9, some 32)] (by kernel_rfl) ?_ ?_
        · rintro u_ I_ _ ⟨g32_0, rfl⟩
          have zu_ := I_.1.size
          refine rg_val (xassign rfl) rfl I_ (Mk.refl _ _ _) ⟨g32_0, rfl⟩
        exact rga_nil
      ·
        rintro w7 I_ _ ⟨g7_0, rfl⟩
        have m7 := I_.1
        have z7 := m7.size
        have E := m7.toExt E (by omega)
        replace S := I_.2
        replace h11_2 := h11_2.off m7 (by omega)
        replace O1 := m7.own O1 (by omega)
        replace O5 := m7.own O5 (by omega)
        refine ops_nil ?_
        refine run_seq ?_
        refine run_rg (τ := [(2, .pointer (some ⟨b1, 0, none⟩)), (5, .pointer (some ⟨b9_, 0, none⟩)), (6, .pointer (some ⟨b4, 0, none⟩)), (7, .string g7_0)]) 20 [33, 34, 35, 36, 37, 38, 39, 40, 41, 42, 43, 44, 45, 46, 47, 48, 49, 3, 4] (fun u_ => Mk b1 (b9_ + 1) w7 u_ ∧ Src u_ b9_ w.heap.size ∧ ∃ cs_ : List Value, cs_.length = 5 ∧ Own u_ b1 cs_ 49) (fun i_ => if i_ = 17 then Mk b1 (b1 + 1) else Mk b9_ (b9_ + 1)) (fun i_ v_ u_ => match i_ with | 0 => v_ = .agg #[.string (r11_0).Code, .string (r11_0).Found, .int .i64 (r11_0).Day, .int .i64 (r11_0).Seal, .slice r11_1 r11_2 r11_3] | 1 => v_ = .string g7_0 | 2 => v_ = .pointer (some ⟨b9_, 0, none⟩) | 3 => v_ = .pointer (some ⟨b4, 0 + 2, none⟩) | 4 => v_ = .int .i64 (r11_0).Day | 5 => v_ = .pointer (some ⟨b9_, 0, none⟩) | 6 => ∃ (y0_ : Int), v_ = .int .i64 y0_ ∧ 0 ≤ y0_ ∧ (y0_ < 60 ∨ y0_ = 0) | 7 => ∃ (y0_ : Int), v_ = .int .i64 ((r11_0).Day + y0_) ∧ 0 ≤ y0_ ∧ (y0_ < 60 ∨ y0_ = 0) | 8 => v_ = .pointer (some ⟨b4, 0 + 2, none⟩) | 9 => v_ = .int .i64 (r11_0).Day | 10 => v_ = .pointer (some ⟨b9_, 0, none⟩) | 11 => ∃ (y0_ : Int), v_ = .int .i64 y0_ ∧ 0 ≤ y0_ ∧ (y0_ < 60 ∨ y0_ = 0) | 12 => ∃ (y0_ : Int), v_ = .int .i64 ((r11_0).Day + y0_) ∧ 0 ≤ y0_ ∧ (y0_ < 60 ∨ y0_ = 0) | 13 => v_ = .pointer (some ⟨b4, 0 + 2, none⟩) | 14 => v_ = .int .i64 (r11_0).Day | 15 => ∃ (y0_ : Nat) (y1_ : Int) (y2_ : Int), v_ = .slice (some ⟨y0_, 0, none⟩) 4 4 ∧ w7.heap.size ≤ y0_ ∧ Sl i64c 1 u_ (some ⟨y0_, 0, none⟩) 4 4 [((r11_0).Day + y1_), ((r11_0).Day + y2_), (r11_0).Day, 20001] ∧ 0 ≤ y1_ ∧ (y1_ < 60 ∨ y1_ = 0) ∧ 0 ≤ y2_ ∧ (y2_ < 60 ∨ y2_ = 0) | 16 => ∃ (y0_ : Int), v_ = .int .i64 y0_ ∧ -30000 ≤ y0_ ∧ y0_ ≤ 30000 | 17 => Own u_ b1 [.string (r11_0).Code, .string (r11_0).Found, .int .i64 (r11_0).Day, .int .i64 (r11_0).Seal, .slice r11_1 r11_2 r11_3] 49 | 18 => v_ = .string g7_0 | 19 => ∃ (y0_ : Int), v_ = .int .i64 y0_ ∧ -30000 ≤ y0_ ∧ y0_ ≤ 30000 | _ => True) [(17, none), (18, some 3), (19, some 4)] (by kernel_rfl) (by kernel_rfl) (by kernel_rfl) (by kernel_rfl) (by kernel_rfl) (by kernel_rfl) ⟨rfl, rfl, rfl, rfl, trivial⟩ rfl (fun u_ e_ z_ => ⟨Mk.ofExt e_, S.ext e_, ⟨_, rfl, O1.ext e_⟩⟩) ?_ ?_ ?_
        · intro i_ j_ hi_ hj_ hij_ v_ u_ u2_ I_ I2_ r_ g_
          have zu_ := I_.1.size
          have rw_ : Mk b1 (b9_ + 1) u_ u2_ := by
            by_cases h_ : i_ = 17
            · simp only [h_, if_true] at r_; exact r_.wide (by omega) (by omega)
            · simp only [h_, if_false] at r_; exact r_.wide (by omega) (by omega)
          have rs_ : i_ ≠ 17 → Mk b9_ (b9_ + 1) u_ u2_ := fun h_ => by simp only [h_, if_false] at r_; exact r_
          clear hi_
          rcases (by omega : j_ = 0 ∨ j_ = 1 ∨ j_ = 2 ∨ j_ = 3 ∨ j_ = 4 ∨ j_ = 5 ∨ j_ = 6 ∨ j_ = 7 ∨ j_ = 8 ∨ j_ = 9 ∨ j_ = 10 ∨ j_ = 11 ∨ j_ = 12 ∨ j_ = 13 ∨ j_ = 14 ∨ j_ = 15 ∨ j_ = 16 ∨ j_ = 17 ∨ j_ = 18 ∨ j_ = 19) with rfl | rfl | rfl | rfl | rfl | rfl | rfl | rfl | rfl | rfl | rfl | rfl | rfl | rfl | rfl | rfl | rfl | rfl | rfl | rfl
          · exact g_
          · exact g_
          · exact g_
          · exact g_
          · exact g_
          · exact g_
          · exact g_
          · exact g_
          · exact g_
          · exact g_
          · exact g_
          · exact g_
          · exact g_
          · exact g_
          · exact g_
          · obtain ⟨g48_0, g48_1, g48_2, rfl, f48_0, f48_1, f48_2, f48_3, f48_4, f48_5⟩ := g_
            exact ⟨g48_0, g48_1, g48_2, rfl, f48_0, f48_1.off rw_ (by simp only [pb, Option.getD_some]; omega), f48_2, f48_3, f48_4, f48_5⟩
          · exact g_
          · have f917_0 := g_
            exact (rs_ hij_).own f917_0 (by omega)
          · exact g_
          · exact g_
        ·
          refine rga [] (by kernel_rfl) ?_ ?_
          · intro u_ I_
            have zu_ := I_.1.size
            have OB_ := I_.1.own O5 (by omega)
            refine rg_val (xloadN Try.isAgg49 Try.sizeOf49 rfl (OB_.cells) rfl) rfl I_ (by simpa using Mk.refl _ _ _) rfl
          refine rga [] (by kernel_rfl) ?_ ?_
          · intro u_ I_
            have zu_ := I_.1.size
            refine rg_val (xmove rfl) rfl I_ (by simpa using Mk.refl _ _ _) rfl
          refine rga [] (by kernel_rfl) ?_ ?_
          · intro u_ I_
            have zu_ := I_.1.size
            refine rg_val (xmove rfl) rfl I_ (by simpa using Mk.refl _ _ _) rfl
          refine rga [] (by kernel_rfl) ?_ ?_
          · intro u_ I_
            have zu_ := I_.1.size
            refine rg_val (xfieldAddr fo49f2 rfl) rfl I_ (by simpa using Mk.refl _ _ _) rfl
          refine rga [(3, some 36)] (by kernel_rfl) ?_ ?_
          · rintro u_ I_ _ rfl
            have zu_ := I_.1.size
            have OB_ := I_.1.own O5 (by omega)
            refine rg_val (xload1 Try.isAgg2 rfl (OB_.cells) rfl) rfl I_ (by simpa using Mk.refl _ _ _) rfl
          refine rga [] (by kernel_rfl) ?_ ?_
          · intro u_ I_
            have zu_ := I_.1.size
            refine rg_val (xmove rfl) rfl I_ (by simpa using Mk.refl _ _ _) rfl
          refine rga [(5, some 38)] (by kernel_rfl) ?_ ?_
          · rintro u_ I_ _ rfl
            have zu_ := I_.1.size
            refine rg_call (xcall Try.call114 rfl) rfl (l01Next_ok b9_ w.heap.size (60) _ I_.2.1) ?_
            rintro _ w_ ⟨r_0, rfl, h_0, h_1, m_, S_⟩
            exact ⟨⟨I_.1.trans (m_.wide (by omega) (by omega)), S_, (let ⟨cs_, hl_, ho_⟩ := I_.2.2; ⟨cs_, hl_, m_.own ho_ (by omega)⟩)⟩, (by simpa using m_), ⟨r_0, rfl, h_0, h_1⟩⟩
          refine rga [(4, some 37), (6, some 39)] (by kernel_rfl) ?_ ?_
          · rintro u_ I_ _ rfl _ ⟨g39_0, rfl, f39_0, f39_1⟩
            have zu_ := I_.1.size
            refine rg_val (xadd rfl rfl (by unfold I64; omega)) rfl I_ (by simpa using Mk.refl _ _ _) ⟨g39_0, rfl, f39_0, f39_1⟩
          refine rga [] (by kernel_rfl) ?_ ?_
          · intro u_ I_
            have zu_ := I_.1.size
            refine rg_val (xfieldAddr fo49f2 rfl) rfl I_ (by simpa using Mk.refl _ _ _) rfl
          refine rga [(8, some 41)] (by kernel_rfl) ?_ ?_
          · rintro u_ I_ _ rfl
            have zu_ := I_.1.size
            have OB_ := I_.1.own O5 (by omega)
            refine rg_val (xload1 Try.isAgg2 rfl (OB_.cells) rfl) rfl I_ (by simpa using Mk.refl _ _ _) rfl
          refine rga [] (by kernel_rfl) ?_ ?_
          · intro u_ I_
            have zu_ := I_.1.size
            refine rg_val (xmove rfl) rfl I_ (by simpa using Mk.refl _ _ _) rfl
          refine rga [(10, some 43)] (by kernel_rfl) ?_ ?_
          · rintro u_ I_ _ rfl
            have zu_ := I_.1.size
            refine rg_call (xcall Try.call114 rfl) rfl (l01Next_ok b9_ w.heap.size (60) _ I_.2.1) ?_
            rintro _ w_ ⟨r_0, rfl, h_0, h_1, m_, S_⟩
            exact ⟨⟨I_.1.trans (m_.wide (by omega) (by omega)), S_, (let ⟨cs_, hl_, ho_⟩ := I_.2.2; ⟨cs_, hl_, m_.own ho_ (by omega)⟩)⟩, (by simpa using m_), ⟨r_0, rfl, h_0, h_1⟩⟩
          refine rga [(9, some 42), (11, some 44)] (by kernel_rfl) ?_ ?_
          · rintro u_ I_ _ rfl _ ⟨g44_0, rfl, f44_0, f44_1⟩
            have zu_ := I_.1.size
            refine rg_val (xadd rfl rfl (by unfold I64; omega)) rfl I_ (by simpa using Mk.refl _ _ _) ⟨g44_0, rfl, f44_0, f44_1⟩
          refine rga [] (by kernel_rfl) ?_ ?_
          · intro u_ I_
            have zu_ := I_.1.size
            refine rg_val (xfieldAddr fo49f2 rfl) rfl I_ (by simpa using Mk.refl _ _ _) rfl
          refine rga [(13, some 46)] (by kernel_rfl) ?_ ?_
          · rintro u_ I_ _ rfl
            have zu_ := I_.1.size
            have OB_ := I_.1.own O5 (by omega)
            refine rg_val (xload1 Try.isAgg2 rfl (OB_.cells) rfl) rfl I_ (by simpa using Mk.refl _ _ _) rfl
          refine rga [(7, some 40), (12, some 45), (14, some 47)] (by kernel_rfl) ?_ ?_
          · rintro u_ I_ _ ⟨g40_0, rfl, f40_0, f40_1⟩ _ ⟨g45_0, rfl, f45_0, f45_1⟩ _ rfl
            have zu_ := I_.1.size
            refine rg_build (len := 4) (vs := [.int .i64 ((r11_0).Day + g40_0), .int .i64 ((r11_0).Day + g45_0), .int .i64 (r11_0).Day, .int .i64 20001]) (cs := [.int .i64 ((r11_0).Day + g40_0), .int .i64 ((r11_0).Day + g45_0), .int .i64 (r11_0).Day, .int .i64 20001]) (sz := 1) Try.underlying55 inf2 rfl rfl (by decide) (by rfl) (by rfl) (by simp [Value.cells]) rfl rfl ?_
            intro b_ w_ e_ hb_ O_
            refine ⟨⟨I_.1.trans (Mk.ofExt e_), I_.2.1.ext e_, (let ⟨cs_, hl_, ho_⟩ := I_.2.2; ⟨cs_, hl_, ho_.ext e_⟩)⟩, (by simpa using Mk.ofExt e_), ⟨b_, g40_0, g45_0, rfl, (by omega), (Own.ow (lo := b_) (hi := b_ + 1) (enc := i64c) (sz := 1) (xs := [((r11_0).Day + g40_0), ((r11_0).Day + g45_0), (r11_0).Day, 20001]) (n := 4) (by simpa [i64c, Handing.cells] using O_) rfl (by omega) (Nat.le_refl _) (by omega) (by intro x hx; rfl)).sl, f40_0, f40_1, f45_0, f45_1⟩⟩
          refine rga [(2, some 35), (15, some 48)] (by kernel_rfl) ?_ ?_
          · rintro u_ I_ _ rfl _ ⟨g48_0, g48_1, g48_2, rfl, f48_0, f48_1, f48_2, f48_3, f48_4, f48_5⟩
            have zu_ := I_.1.size
            refine rg_call (xcall Try.call115 rfl) rfl (l01Pick_ok b9_ w.heap.size _ _ _ [(r11_0.Day + g48_1), (r11_0.Day + g48_2), r11_0.Day, 20001] 30000 _ I_.2.1 f48_1 (by intro x hx; simp only [List.mem_cons, List.not_mem_nil, or_false] at hx; omega) (by omega) (by simp only [pb, Option.getD_some]; omega)) ?_
            rintro _ w_ ⟨r_0, rfl, h_0, m_, S_⟩
            exact ⟨⟨I_.1.trans (m_.wide (by omega) (by omega)), S_, (let ⟨cs_, hl_, ho_⟩ := I_.2.2; ⟨cs_, hl_, m_.own ho_ (by omega)⟩)⟩, (by simpa using m_), ⟨r_0, rfl, h_0⟩⟩
          refine rga [(0, some 33)] (by kernel_rfl) ?_ ?_
          · rintro u_ I_ _ rfl
            have zu_ := I_.1.size
            obtain ⟨I1_, I2_, cs_, hl_, ho_⟩ := I_
            refine rg_storeN (vs := [.string (r11_0).Code, .string (r11_0).Found, .int .i64 (r11_0).Day, .int .i64 (r11_0).Seal, .slice r11_1 r11_2 r11_3]) Try.sizeOf49 rfl rfl ho_ rfl hl_ (by simp [Value.oneCell']) rfl ?_
            intro w_ on_ o_
            refine ⟨⟨I1_.trans (Mk.ofOnly on_ (by omega) (by omega)), I2_.off (Mk.ofOnly on_ (Nat.le_refl _) (Nat.lt_succ_self _)) (by omega), ⟨_, rfl, o_⟩⟩, (by simpa using Mk.ofOnly on_ (Nat.le_refl _) (Nat.lt_succ_self _)), o_⟩
          refine rga [(1, some 34)] (by kernel_rfl) ?_ ?_
          · rintro u_ I_ _ rfl
            have zu_ := I_.1.size
            refine rg_val (xassign rfl) rfl I_ (by simpa using Mk.refl _ _ _) rfl
          refine rga [(16, some 49)] (by kernel_rfl) ?_ ?_
          · rintro u_ I_ _ ⟨g49_0, rfl, f49_0⟩
            have zu_ := I_.1.size
            refine rg_val (xassign rfl) rfl I_ (by simpa using Mk.refl _ _ _) ⟨g49_0, rfl, f49_0⟩
          exact rga_nil
        ·
          rintro w8 I_ _ f917_0 _ rfl _ ⟨g4_0, rfl, f4_0⟩
          have m8 := I_.1
          have z8 := m8.size
          have E := m8.toExt E (by omega)
          replace S := I_.2.1
          replace h11_2 := h11_2.off m8 (by omega)
          replace O5 := m8.own O5 (by omega)
          refine ops_nil ?_
          refine run_ret Try.func45 (rescCTT rfl rfl (run_loadVar_cells Try.isAgg49 Try.sizeOf49 f917_0.cells rfl) rfl rfl) ?_
          exact ⟨_, rfl, E, _, _, _, _, _, _, rfl, h11_0, by omega, h11_2.wide (by omega) (by omega), by omega⟩
    ·
      refine ov (xpick_t rfl rfl) rfl rfl rfl ?_
      refine ops_nil ?_
      refine run_cond_f rfl ?_
      refine run_skip ?_
      refine run_seq ?_
      refine run_rg (τ := [(2, .pointer (some ⟨b1, 0, none⟩)), (5, .pointer (some ⟨b9_, 0, none⟩)), (6, .pointer (some ⟨b4, 0, none⟩)), (7, .string (r11_0).Found)]) 20 [33, 34, 35, 36, 37, 38, 39, 40, 41, 42, 43, 44, 45, 46, 47, 48, 49, 3, 4] (fun u_ => Mk b1 (b9_ + 1) w6 u_ ∧ Src u_ b9_ w.heap.size ∧ ∃ cs_ : List Value, cs_.length = 5 ∧ Own u_ b1 cs_ 49) (fun i_ => if i_ = 17 then Mk b1 (b1 + 1) else Mk b9_ (b9_ + 1)) (fun i_ v_ u_ => match i_ with | 0 => v_ = .agg #[.string (r11_0).Code, .string (r11_0).Found, .int .i64 (r11_0).Day, .int .i64 (r11_0).Seal, .slice r11_1 r11_2 r11_3] | 1 => v_ = .string (r11_0).Found | 2 => v_ = .pointer (some ⟨b9_, 0, none⟩) | 3 => v_ = .pointer (some ⟨b4, 0 + 2, none⟩) | 4 => v_ = .int .i64 (r11_0).Day | 5 => v_ = .pointer (some ⟨b9_, 0, none⟩) | 6 => ∃ (y0_ : Int), v_ = .int .i64 y0_ ∧ 0 ≤ y0_ ∧ (y0_ < 60 ∨ y0_ = 0) | 7 => ∃ (y0_ : Int), v_ = .int .i64 ((r11_0).Day + y0_) ∧ 0 ≤ y0_ ∧ (y0_ < 60 ∨ y0_ = 0) | 8 => v_ = .pointer (some ⟨b4, 0 + 2, none⟩) | 9 => v_ = .int .i64 (r11_0).Day | 10 => v_ = .pointer (some ⟨b9_, 0, none⟩) | 11 => ∃ (y0_ : Int), v_ = .int .i64 y0_ ∧ 0 ≤ y0_ ∧ (y0_ < 60 ∨ y0_ = 0) | 12 => ∃ (y0_ : Int), v_ = .int .i64 ((r11_0).Day + y0_) ∧ 0 ≤ y0_ ∧ (y0_ < 60 ∨ y0_ = 0) | 13 => v_ = .pointer (some ⟨b4, 0 + 2, none⟩) | 14 => v_ = .int .i64 (r11_0).Day | 15 => ∃ (y0_ : Nat) (y1_ : Int) (y2_ : Int), v_ = .slice (some ⟨y0_, 0, none⟩) 4 4 ∧ w6.heap.size ≤ y0_ ∧ Sl i64c 1 u_ (some ⟨y0_, 0, none⟩) 4 4 [((r11_0).Day + y1_), ((r11_0).Day + y2_), (r11_0).Day, 20001] ∧ 0 ≤ y1_ ∧ (y1_ < 60 ∨ y1_ = 0) ∧ 0 ≤ y2_ ∧ (y2_ < 60 ∨ y2_ = 0) | 16 => ∃ (y0_ : Int), v_ = .int .i64 y0_ ∧ -30000 ≤ y0_ ∧ y0_ ≤ 30000 | 17 => Own u_ b1 [.string (r11_0).Code, .string (r11_0).Found, .int .i64 (r11_0).Day, .int .i64 (r11_0).Seal, .slice r11_1 r11_2 r11_3] 49 | 18 => v_ = .string (r11_0).Found | 19 => ∃ (y0_ : Int), v_ = .int .i64 y0_ ∧ -30000 ≤ y0_ ∧ y0_ ≤ 30000 | _ => True) [(17, none), (18, some 3), (19, some 4)] (by kernel_rfl) (by kernel_rfl) (by kernel_rfl) (by kernel_rfl) (by kernel_rfl) (by kernel_rfl) ⟨rfl, rfl, rfl, rfl, trivial⟩ rfl (fun u_ e_ z_ => ⟨Mk.ofExt e_, S.ext e_, ⟨_, rfl, O1.ext e_⟩⟩) ?_ ?_ ?_
      · intro i_ j_ hi_ hj_ hij_ v_ u_ u2_ I_ I2_ r_ g_
        have zu_ := I_.1.size
        have rw_ : Mk b1 (b9_ + 1) u_ u2_ := by
          by_cases h_ : i_ = 17
          · simp only [h_, if_true] at r_; exact r_.wide (by omega) (by omega)
          · simp only [h_, if_false] at r_; exact r_.wide (by omega) (by omega)
        have rs_ : i_ ≠ 17 → Mk b9_ (b9_ + 1) u_ u2_ := fun h_ => by simp only [h_, if_false] at r_; exact r_
        clear hi_
        rcases (by omega : j_ = 0 ∨ j_ = 1 ∨ j_ = 2 ∨ j_ = 3 ∨ j_ = 4 ∨ j_ = 5 ∨ j_ = 6 ∨ j_ = 7 ∨ j_ = 8 ∨ j_ = 9 ∨ j_ = 10 ∨ j_ = 11 ∨ j_ = 12 ∨ j_ = 13 ∨ j_ = 14 ∨ j_ = 15 ∨ j_ = 16 ∨ j_ = 17 ∨ j_ = 18 ∨ j_ = 19) with rfl | rfl | rfl | rfl | rfl | rfl | rfl | rfl | rfl | rfl | rfl | rfl | rfl | rfl | rfl | rfl | rfl | rfl | rfl | rfl
        · exact g_
        · exact g_
        · exact g_
        · exact g_
        · exact g_
        · exact g_
        · exact g_
        · exact g_
        · exact g_
        · exact g_
        · exact g_
        · exact g_
        · exact g_
        · exact g_
        · exact g_
        · obtain ⟨g48_0, g48_1, g48_2, rfl, f48_0, f48_1, f48_2, f48_3, f48_4, f48_5⟩ := g_
          exact ⟨g48_0, g48_1, g48_2, rfl, f48_0, f48_1.off rw_ (by simp only [pb, Option.getD_some]; omega), f48_2, f48_3, f48_4, f48_5⟩
        · exact g_
        · have f917_0 := g_
          exact (rs_ hij_).own f917_0 (by omega)
        · exact g_
        · exact g_
      ·
        refine rga [] (by kernel_rfl) ?_ ?_
        · intro u_ I_
          have zu_ := I_.1.size
          have OB_ := I_.1.own O5 (by omega)
          refine rg_val (xloadN Try.isAgg49 Try.sizeOf49 rfl (OB_.cells) rfl) rfl I_ (by simpa using Mk.refl _ _ _) rfl
        refine rga [] (by kernel_rfl) ?_ ?_
        · intro u_ I_
          have zu_ := I_.1.size
          refine rg_val (xmove rfl) rfl I_ (by simpa using Mk.refl _ _ _) rfl
        refine rga [] (by kernel_rfl) ?_ ?_
        · intro u_ I_
          have zu_ := I_.1.size
          refine rg_val (xmove rfl) rfl I_ (by simpa using Mk.refl _ _ _) rfl
        refine rga [] (by kernel_rfl) ?_ ?_
        · intro u_ I_
          have zu_ := I_.1.size
          refine rg_val (xfieldAddr fo49f2 rfl) rfl I_ (by simpa using Mk.refl _ _ _) rfl
        refine rga [(3, some 36)] (by kernel_rfl) ?_ ?_
        · rintro u_ I_ _ rfl
          have zu_ := I_.1.size
          have OB_ := I_.1.own O5 (by omega)
          refine rg_val (xload1 Try.isAgg2 rfl (OB_.cells) rfl) rfl I_ (by simpa using Mk.refl _ _ _) rfl
        refine rga [] (by kernel_rfl) ?_ ?_
        · intro u_ I_
          have zu_ := I_.1.size
          refine rg_val (xmove rfl) rfl I_ (by simpa using Mk.refl _ _ _) rfl
        refine rga [(5, some 38)] (by kernel_rfl) ?_ ?_
        · rintro u_ I_ _ rfl
          have zu_ := I_.1.size
          refine rg_call (xcall Try.call114 rfl) rfl (l01Next_ok b9_ w.heap.size (60) _ I_.2.1) ?_
          rintro _ w_ ⟨r_0, rfl, h_0, h_1, m_, S_⟩
          exact ⟨⟨I_.1.trans (m_.wide (by omega) (by omega)), S_, (let ⟨cs_, hl_, ho_⟩ := I_.2.2; ⟨cs_, hl_, m_.own ho_ (by omega)⟩)⟩, (by simpa using m_), ⟨r_0, rfl, h_0, h_1⟩⟩
        refine rga [(4, some 37), (6, some 39)] (by kernel_rfl) ?_ ?_
        · rintro u_ I_ _ rfl _ ⟨g39_0, rfl, f39_0, f39_1⟩
          have zu_ := I_.1.size
          refine rg_val (xadd rfl rfl (by unfold I64; omega)) rfl I_ (by simpa using Mk.refl _ _ _) ⟨g39_0, rfl, f39_0, f39_1⟩
        refine rga [] (by kernel_rfl) ?_ ?_
        · intro u_ I_
          have zu_ := I_.1.size
          refine rg_val (xfieldAddr fo49f2 rfl) rfl I_ (by simpa using Mk.refl _ _ _) rfl
        refine rga [(8, some 41)] (by kernel_rfl) ?_ ?_
        · rintro u_ I_ _ rfl
          have zu_ := I_.1.size
          have OB_ := I_.1.own O5 (by omega)
          refine rg_val (xload1 Try.isAgg2 rfl (OB_.cells) rfl) rfl I_ (by simpa using Mk.refl _ _ _) rfl
        refine rga [] (by kernel_rfl) ?_ ?_
        · intro u_ I_
          have zu_ := I_.1.size
          refine rg_val (xmove rfl) rfl I_ (by simpa using Mk.refl _ _ _) rfl
        refine rga [(10, some 43)] (by kernel_rfl) ?_ ?_
        · rintro u_ I_ _ rfl
          have zu_ := I_.1.size
          refine rg_call (xcall Try.call114 rfl) rfl (l01Next_ok b9_ w.heap.size (60) _ I_.2.1) ?_
          rintro _ w_ ⟨r_0, rfl, h_0, h_1, m_, S_⟩
          exact ⟨⟨I_.1.trans (m_.wide (by omega) (by omega)), S_, (let ⟨cs_, hl_, ho_⟩ := I_.2.2; ⟨cs_, hl_, m_.own ho_ (by omega)⟩)⟩, (by simpa using m_), ⟨r_0, rfl, h_0, h_1⟩⟩
        refine rga [(9, some 42), (11, some 44)] (by kernel_rfl) ?_ ?_
        · rintro u_ I_ _ rfl _ ⟨g44_0, rfl, f44_0, f44_1⟩
          have zu_ := I_.1.size
          refine rg_val (xadd rfl rfl (by unfold I64; omega)) rfl I_ (by simpa using Mk.refl _ _ _) ⟨g44_0, rfl, f44_0, f44_1⟩
        refine rga [] (by kernel_rfl) ?_ ?_
        · intro u_ I_
          have zu_ := I_.1.size
          refine rg_val (xfieldAddr fo49f2 rfl) rfl I_ (by simpa using Mk.refl _ _ _) rfl
        refine rga [(13, some 46)] (by kernel_rfl) ?_ ?_
        · rintro u_ I_ _ rfl
          have zu_ := I_.1.size
          have OB_ := I_.1.own O5 (by omega)
          refine rg_val (xload1 Try.isAgg2 rfl (OB_.cells) rfl) rfl I_ (by simpa using Mk.refl _ _ _) rfl
        refine rga [(7, some 40), (12, some 45), (14, some 47)] (by kernel_rfl) ?_ ?_
        · rintro u_ I_ _ ⟨g40_0, rfl, f40_0, f40_1⟩ _ ⟨g45_0, rfl, f45_0, f45_1⟩ _ rfl
          have zu_ := I_.1.size
          refine rg_build (len := 4) (vs := [.int .i64 ((r11_0).Day + g40_0), .int .i64 ((r11_0).Day + g45_0), .int .i64 (r11_0).Day, .int .i64 20001]) (cs := [.int .i64 ((r11_0).Day + g40_0), .int .i64 ((r11_0).Day + g45_0), .int .i64 (r11_0).Day, .int .i64 20001]) (sz := 1) Try.underlying55 inf2 rfl rfl (by decide) (by rfl) (by rfl) (by simp [Value.cells]) rfl rfl ?_
          intro b_ w_ e_ hb_ O_
          refine ⟨⟨I_.1.trans (Mk.ofExt e_), I_.2.1.ext e_, (let ⟨cs_, hl_, ho_⟩ := I_.2.2; ⟨cs_, hl_, ho_.ext e_⟩)⟩, (by simpa using Mk.ofExt e_), ⟨b_, g40_0, g45_0, rfl, (by omega), (Own.ow (lo := b_) (hi := b_ + 1) (enc := i64c) (sz := 1) (xs := [((r11_0).Day + g40_0), ((r11_0).Day + g45_0), (r11_0).Day, 20001]) (n := 4) (by simpa [i64c, Handing.cells] using O_) rfl (by omega) (Nat.le_refl _) (by omega) (by intro x hx; rfl)).sl, f40_0, f40_1, f45_0, f45_1⟩⟩
        refine rga [(2, some 35), (15, some 48)] (by kernel_rfl) ?_ ?_
        · rintro u_ I_ _ rfl _ ⟨g48_0, g48_1, g48_2, rfl, f48_0, f48_1, f48_2, f48_3, f48_4, f48_5⟩
          have zu_ := I_.1.size
          refine rg_call (xcall Try.call115 rfl) rfl (l01Pick_ok b9_ w.heap.size _ _ _ [(r11_0.Day + g48_1), (r11_0.Day + g48_2), r11_0.Day, 20001] 30000 _ I_.2.1 f48_1 (by intro x hx; simp only [List.mem_cons, List.not_mem_nil, or_false] at hx; omega) (by omega) (by simp only [pb, Option.getD_some]; omega)) ?_
          rintro _ w_ ⟨r_0, rfl, h_0, m_, S_⟩
          exact ⟨⟨I_.1.trans (m_.wide (by omega) (by omega)), S_, (let ⟨cs_, hl_, ho_⟩ := I_.2.2; ⟨cs_, hl_, m_.own ho_ (by omega)⟩)⟩, (by simpa using m_), ⟨r_0, rfl, h_0⟩⟩
        refine rga [(0, some 33)] (by kernel_rfl) ?_ ?_
        · rintro u_ I_ _ rfl
          have zu_ := I_.1.size
          obtain ⟨I1_, I2_, cs_, hl_, ho_⟩ := I_
          refine rg_storeN (vs := [.string (r11_0).Code, .string (r11_0).Found, .int .i64 (r11_0).Day, .int .i64 (r11_0).Seal, .slice r11_1 r11_2 r11_3]) Try.sizeOf49 rfl rfl ho_ rfl hl_ (by simp [Value.oneCell']) rfl ?_
          intro w_ on_ o_
          refine ⟨⟨I1_.trans (Mk.ofOnly on_ (by omega) (by omega)), I2_.off (Mk.ofOnly on_ (Nat.le_refl _) (Nat.lt_succ_self _)) (by omega), ⟨_, rfl, o_⟩⟩, (by simpa using Mk.ofOnly on_ (Nat.le_refl _) (Nat.lt_succ_self _)), o_⟩
        refine rga [(1, some 34)] (by kernel_rfl) ?_ ?_
        · rintro u_ I_ _ rfl
          have zu_ := I_.1.size
          refine rg_val (xassign rfl) rfl I_ (by simpa using Mk.refl _ _ _) rfl
        refine rga [(16, some 49)] (by kernel_rfl) ?_ ?_
        · rintro u_ I_ _ ⟨g49_0, rfl, f49_0⟩
          have zu_ := I_.1.size
          refine rg_val (xassign rfl) rfl I_ (by simpa using Mk.refl _ _ _) ⟨g49_0, rfl, f49_0⟩
        exact rga_nil
      ·
        rintro w7 I_ _ f917_0 _ rfl _ ⟨g4_0, rfl, f4_0⟩
        have m7 := I_.1
        have z7 := m7.size
        have E := m7.toExt E (by omega)
        replace S := I_.2.1
        replace h11_2 := h11_2.off m7 (by omega)
        replace O5 := m7.own O5 (by omega)
        refine ops_nil ?_
        refine run_ret Try.func45 (rescCTT rfl rfl (run_loadVar_cells Try.isAgg49 Try.sizeOf49 f917_0.cells rfl) rfl rfl) ?_
        exact ⟨_, rfl, E, _, _, _, _, _, _, rfl, h11_0, by omega, h11_2.wide (by omega) (by omega), by omega⟩
  ·
    refine ov (xmove rfl) rfl rfl rfl ?_
    refine og rfl rfl rfl ?_
    refine og rfl rfl rfl ?_
    refine og rfl rfl rfl ?_
    refine ov (xpick_f rfl rfl) rfl rfl rfl ?_
    refine ops_nil ?_
    refine run_cond_f rfl ?_
    refine run_skip ?_
    refine run_seq ?_
    refine run_rg (τ := [(2, .pointer (some ⟨b1, 0, none⟩)), (5, .pointer (some ⟨b9_, 0, none⟩)), (6, .pointer (some ⟨b4, 0, none⟩)), (7, .string (r11_0).Found)]) 20 [33, 34, 35, 36, 37, 38, 39, 40, 41, 42, 43, 44, 45, 46, 47, 48, 49, 3, 4] (fun u_ => Mk b1 (b9_ + 1) w5 u_ ∧ Src u_ b9_ w.heap.size ∧ ∃ cs_ : List Value, cs_.length = 5 ∧ Own u_ b1 cs_ 49) (fun i_ => if i_ = 17 then Mk b1 (b1 + 1) else Mk b9_ (b9_ + 1)) (fun i_ v_ u_ => match i_ with | 0 => v_ = .agg #[.string (r11_0).Code, .string (r11_0).Found, .int .i64 (r11_0).Day, .int .i64 (r11_0).Seal, .slice r11_1 r11_2 r11_3] | 1 => v_ = .string (r11_0).Found | 2 => v_ = .pointer (some ⟨b9_, 0, none⟩) | 3 => v_ = .pointer (some ⟨b4, 0 + 2, none⟩) | 4 => v_ = .int .i64 (r11_0).Day | 5 => v_ = .pointer (some ⟨b9_, 0, none⟩) | 6 => ∃ (y0_ : Int), v_ = .int .i64 y0_ ∧ 0 ≤ y0_ ∧ (y0_ < 60 ∨ y0_ = 0) | 7 => ∃ (y0_ : Int), v_ = .int .i64 ((r11_0).Day + y0_) ∧ 0 ≤ y0_ ∧ (y0_ < 60 ∨ y0_ = 0) | 8 => v_ = .pointer (some ⟨b4, 0 + 2, none⟩) | 9 => v_ = .int .i64 (r11_0).Day | 10 => v_ = .pointer (some ⟨b9_, 0, none⟩) | 11 => ∃ (y0_ : Int), v_ = .int .i64 y0_ ∧ 0 ≤ y0_ ∧ (y0_ < 60 ∨ y0_ = 0) | 12 => ∃ (y0_ : Int), v_ = .int .i64 ((r11_0).Day + y0_) ∧ 0 ≤ y0_ ∧ (y0_ < 60 ∨ y0_ = 0) | 13 => v_ = .pointer (some ⟨b4, 0 + 2, none⟩) | 14 => v_ = .int .i64 (r11_0).Day | 15 => ∃ (y0_ : Nat) (y1_ : Int) (y2_ : Int), v_ = .slice (some ⟨y0_, 0, none⟩) 4 4 ∧ w5.heap.size ≤ y0_ ∧ Sl i64c 1 u_ (some ⟨y0_, 0, none⟩) 4 4 [((r11_0).Day + y1_), ((r11_0).Day + y2_), (r11_0).Day, 20001] ∧ 0 ≤ y1_ ∧ (y1_ < 60 ∨ y1_ = 0) ∧ 0 ≤ y2_ ∧ (y2_ < 60 ∨ y2_ = 0) | 16 => ∃ (y0_ : Int), v_ = .int .i64 y0_ ∧ -30000 ≤ y0_ ∧ y0_ ≤ 30000 | 17 => Own u_ b1 [.string (r11_0).Code, .string (r11_0).Found, .int .i64 (r11_0).Day, .int .i64 (r11_0).Seal, .slice r11_1 r11_2 r11_3] 49 | 18 => v_ = .string (r11_0).Found | 19 => ∃ (y0_ : Int), v_ = .int .i64 y0_ ∧ -30000 ≤ y0_ ∧ y0_ ≤ 30000 | _ => True) [(17, none), (18, some 3), (19, some 4)] (by kernel_rfl) (by kernel_rfl) (by kernel_rfl) (by kernel_rfl) (by kernel_rfl) (by kernel_rfl) ⟨rfl, rfl, rfl, rfl, trivial⟩ rfl (fun u_ e_ z_ => ⟨Mk.ofExt e_, S.ext e_, ⟨_, rfl, O1.ext e_⟩⟩) ?_ ?_ ?_
    · intro i_ j_ hi_ hj_ hij_ v_ u_ u2_ I_ I2_ r_ g_
      have zu_ := I_.1.size
      have rw_ : Mk b1 (b9_ + 1) u_ u2_ := by
        by_cases h_ : i_ = 17
        · simp only [h_, if_true] at r_; exact r_.wide (by omega) (by omega)
        · simp only [h_, if_false] at r_; exact r_.wide (by omega) (by omega)
      have rs_ : i_ ≠ 17 → Mk b9_ (b9_ + 1) u_ u2_ := fun h_ => by simp only [h_, if_false] at r_; exact r_
      clear hi_
      rcases (by omega : j_ = 0 ∨ j_ = 1 ∨ j_ = 2 ∨ j_ = 3 ∨ j_ = 4 ∨ j_ = 5 ∨ j_ = 6 ∨ j_ = 7 ∨ j_ = 8 ∨ j_ = 9 ∨ j_ = 10 ∨ j_ = 11 ∨ j_ = 12 ∨ j_ = 13 ∨ j_ = 14 ∨ j_ = 15 ∨ j_ = 16 ∨ j_ = 17 ∨ j_ = 18 ∨ j_ = 19) with rfl | rfl | rfl | rfl | rfl | rfl | rfl | rfl | rfl | rfl | rfl | rfl | rfl | rfl | rfl | rfl | rfl | rfl | rfl | rfl
      · exact g_
      · exact g_
      · exact g_
      · exact g_
      · exact g_
      · exact g_
      · exact g_
      · exact g_
      · exact g_
      · exact g_
      · exact g_
      · exact g_
      · exact g_
      · exact g_
      · exact g_
      · obtain ⟨g48_0, g48_1, g48_2, rfl, f48_0, f48_1, f48_2, f48_3, f48_4, f48_5⟩ := g_
        exact ⟨g48_0, g48_1, g48_2, rfl, f48_0, f48_1.off rw_ (by simp only [pb, Option.getD_some]; omega), f48_2, f48_3, f48_4, f48_5⟩
      · exact g_
      · have f917_0 := g_
        exact (rs_ hij_).own f917_0 (by omega)
      · exact g_
      · exact g_
    ·
      refine rga [] (by kernel_rfl) ?_ ?_
      · intro u_ I_
        have zu_ := I_.1.size
        have OB_ := I_.1.own O5 (by omega)
        refine rg_val (xloadN Try.isAgg49 Try.sizeOf49 rfl (OB_.cells) rfl) rfl I_ (by simpa using Mk.refl _ _ _) rfl
      refine rga [] (by kernel_rfl) ?_ ?_
      · intro u_ I_
        have zu_ := I_.1.size
        refine rg_val (xmove rfl) rfl I_ (by simpa using Mk.refl _ _ _) rfl
      refine rga [] (by kernel_rfl) ?_ ?_
      · intro u_ I_
        have zu_ := I_.1.size
        refine rg_val (xmove rfl) rfl I_ (by simpa using Mk.refl _ _ _) rfl
      refine rga [] (by kernel_rfl) ?_ ?_
      · intro u_ I_
        have zu_ := I_.1.size
        refine rg_val (xfieldAddr fo49f2 rfl) rfl I_ (by simpa using Mk.refl _ _ _) rfl
      refine rga [(3, some 36)] (by kernel_rfl) ?_ ?_
      · rintro u_ I_ _ rfl
        have zu_ := I_.1.size
        have OB_ := I_.1.own O5 (by omega)
        refine rg_val (xload1 Try.isAgg2 rfl (OB_.cells) rfl) rfl I_ (by simpa using Mk.refl _ _ _) rfl
      refine rga [] (by kernel_rfl) ?_ ?_
      · intro u_ I_
        have zu_ := I_.1.size
        refine rg_val (xmove rfl) rfl I_ (by simpa using Mk.refl _ _ _) rfl
      refine rga [(5, some 38)] (by kernel_rfl) ?_ ?_
      · rintro u_ I_ _ rfl
        have zu_ := I_.1.size
        refine rg_call (xcall Try.call114 rfl) rfl (l01Next_ok b9_ w.heap.size (60) _ I_.2.1) ?_
        rintro _ w_ ⟨r_0, rfl, h_0, h_1, m_, S_⟩
        exact ⟨⟨I_.1.trans (m_.wide (by omega) (by omega)), S_, (let ⟨cs_, hl_, ho_⟩ := I_.2.2; ⟨cs_, hl_, m_.own ho_ (by omega)⟩)⟩, (by simpa using m_), ⟨r_0, rfl, h_0, h_1⟩⟩
      refine rga [(4, some 37), (6, some 39)] (by kernel_rfl) ?_ ?_
      · rintro u_ I_ _ rfl _ ⟨g39_0, rfl, f39_0, f39_1⟩
        have zu_ := I_.1.size
        refine rg_val (xadd rfl rfl (by unfold I64; omega)) rfl I_ (by simpa using Mk.refl _ _ _) ⟨g39_0, rfl, f39_0, f39_1⟩
      refine rga [] (by kernel_rfl) ?_ ?_
      · intro u_ I_
        have zu_ := I_.1.size
        refine rg_val (xfieldAddr fo49f2 rfl) rfl I_ (by simpa using Mk.refl _ _ _) rfl
      refine rga [(8, some 41)] (by kernel_rfl) ?_ ?_
      · rintro u_ I_ _ rfl
        have zu_ := I_.1.size
        have OB_ := I_.1.own O5 (by omega)
        refine rg_val (xload1 Try.isAgg2 rfl (OB_.cells) rfl) rfl I_ (by simpa using Mk.refl _ _ _) rfl
      refine rga [] (by kernel_rfl) ?_ ?_
      · intro u_ I_
        have zu_ := I_.1.size
        refine rg_val (xmove rfl) rfl I_ (by simpa using Mk.refl _ _ _) rfl
      refine rga [(10, some 43)] (by kernel_rfl) ?_ ?_
      · rintro u_ I_ _ rfl
        have zu_ := I_.1.size
        refine rg_call (xcall Try.call114 rfl) rfl (l01Next_ok b9_ w.heap.size (60) _ I_.2.1) ?_
        rintro _ w_ ⟨r_0, rfl, h_0, h_1, m_, S_⟩
        exact ⟨⟨I_.1.trans (m_.wide (by omega) (by omega)), S_, (let ⟨cs_, hl_, ho_⟩ := I_.2.2; ⟨cs_, hl_, m_.own ho_ (by omega)⟩)⟩, (by simpa using m_), ⟨r_0, rfl, h_0, h_1⟩⟩
      refine rga [(9, some 42), (11, some 44)] (by kernel_rfl) ?_ ?_
      · rintro u_ I_ _ rfl _ ⟨g44_0, rfl, f44_0, f44_1⟩
        have zu_ := I_.1.size
        refine rg_val (xadd rfl rfl (by unfold I64; omega)) rfl I_ (by simpa using Mk.refl _ _ _) ⟨g44_0, rfl, f44_0, f44_1⟩
      refine rga [] (by kernel_rfl) ?_ ?_
      · intro u_ I_
        have zu_ := I_.1.size
        refine rg_val (xfieldAddr fo49f2 rfl) rfl I_ (by simpa using Mk.refl _ _ _) rfl
      refine rga [(13, some 46)] (by kernel_rfl) ?_ ?_
      · rintro u_ I_ _ rfl
        have zu_ := I_.1.size
        have OB_ := I_.1.own O5 (by omega)
        refine rg_val (xload1 Try.isAgg2 rfl (OB_.cells) rfl) rfl I_ (by simpa using Mk.refl _ _ _) rfl
      refine rga [(7, some 40), (12, some 45), (14, some 47)] (by kernel_rfl) ?_ ?_
      · rintro u_ I_ _ ⟨g40_0, rfl, f40_0, f40_1⟩ _ ⟨g45_0, rfl, f45_0, f45_1⟩ _ rfl
        have zu_ := I_.1.size
        refine rg_build (len := 4) (vs := [.int .i64 ((r11_0).Day + g40_0), .int .i64 ((r11_0).Day + g45_0), .int .i64 (r11_0).Day, .int .i64 20001]) (cs := [.int .i64 ((r11_0).Day + g40_0), .int .i64 ((r11_0).Day + g45_0), .int .i64 (r11_0).Day, .int .i64 20001]) (sz := 1) Try.underlying55 inf2 rfl rfl (by decide) (by rfl) (by rfl) (by simp [Value.cells]) rfl rfl ?_
        intro b_ w_ e_ hb_ O_
        refine ⟨⟨I_.1.trans (Mk.ofExt e_), I_.2.1.ext e_, (let ⟨cs_, hl_, ho_⟩ := I_.2.2; ⟨cs_, hl_, ho_.ext e_⟩)⟩, (by simpa using Mk.ofExt e_), ⟨b_, g40_0, g45_0, rfl, (by omega), (Own.ow (lo := b_) (hi := b_ + 1) (enc := i64c) (sz := 1) (xs := [((r11_0).Day + g40_0), ((r11_0).Day + g45_0), (r11_0).Day, 20001]) (n := 4) (by simpa [i64c, Handing.cells] using O_) rfl (by omega) (Nat.le_refl _) (by omega) (by intro x hx; rfl)).sl, f40_0, f40_1, f45_0, f45_1⟩⟩
      refine rga [(2, some 35), (15, some 48)] (by kernel_rfl) ?_ ?_
      · rintro u_ I_ _ rfl _ ⟨g48_0, g48_1, g48_2, rfl, f48_0, f48_1, f48_2, f48_3, f48_4, f48_5⟩
        have zu_ := I_.1.size
        refine rg_call (xcall Try.call115 rfl) rfl (l01Pick_ok b9_ w.heap.size _ _ _ [(r11_0.Day + g48_1), (r11_0.Day + g48_2), r11_0.Day, 20001] 30000 _ I_.2.1 f48_1 (by intro x hx; simp only [List.mem_cons, List.not_mem_nil, or_false] at hx; omega) (by omega) (by simp only [pb, Option.getD_some]; omega)) ?_
        rintro _ w_ ⟨r_0, rfl, h_0, m_, S_⟩
        exact ⟨⟨I_.1.trans (m_.wide (by omega) (by omega)), S_, (let ⟨cs_, hl_, ho_⟩ := I_.2.2; ⟨cs_, hl_, m_.own ho_ (by omega)⟩)⟩, (by simpa using m_), ⟨r_0, rfl, h_0⟩⟩
      refine rga [(0, some 33)] (by kernel_rfl) ?_ ?_
      · rintro u_ I_ _ rfl
        have zu_ := I_.1.size
        obtain ⟨I1_, I2_, cs_, hl_, ho_⟩ := I_
        refine rg_storeN (vs := [.string (r11_0).Code, .string (r11_0).Found, .int .i64 (r11_0).Day, .int .i64 (r11_0).Seal, .slice r11_1 r11_2 r11_3]) Try.sizeOf49 rfl rfl ho_ rfl hl_ (by simp [Value.oneCell']) rfl ?_
        intro w_ on_ o_
        refine ⟨⟨I1_.trans (Mk.ofOnly on_ (by omega) (by omega)), I2_.off (Mk.ofOnly on_ (Nat.le_refl _) (Nat.lt_succ_self _)) (by omega), ⟨_, rfl, o_⟩⟩, (by simpa using Mk.ofOnly on_ (Nat.le_refl _) (Nat.lt_succ_self _)), o_⟩
      refine rga [(1, some 34)] (by kernel_rfl) ?_ ?_
      · rintro u_ I_ _ rfl
        have zu_ := I_.1.size
        refine rg_val (xassign rfl) rfl I_ (by simpa using Mk.refl _ _ _) rfl
      refine rga [(16, some 49)] (by kernel_rfl) ?_ ?_
      · rintro u_ I_ _ ⟨g49_0, rfl, f49_0⟩
        have zu_ := I_.1.size
        refine rg_val (xassign rfl) rfl I_ (by simpa using Mk.refl _ _ _) ⟨g49_0, rfl, f49_0⟩
      exact rga_nil
    ·
      rintro w6 I_ _ f917_0 _ rfl _ ⟨g4_0, rfl, f4_0⟩
      have m6 := I_.1
      have z6 := m6.size
      have E := m6.toExt E (by omega)
      replace S := I_.2.1
      replace h11_2 := h11_2.off m6 (by omega)
      replace O5 := m6.own O5 (by omega)
      refine ops_nil ?_
      refine run_ret Try.func45 (rescCTT rfl rfl (run_loadVar_cells Try.isAgg49 Try.sizeOf49 f917_0.cells rfl) rfl rfl) ?_
      exact ⟨_, rfl, E, _, _, _, _, _, _, rfl, h11_0, by omega, h11_2.wide (by omega) (by omega), by omega⟩
end Go.Proofs.Ytnjohcbamblilaa
