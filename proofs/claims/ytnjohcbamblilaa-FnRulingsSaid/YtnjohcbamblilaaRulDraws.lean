/-
  What the law on rulings draws. No condition beyond those written in each theorem.
-/
import Derived.Test.YtnjohcbamblilaaXListDraw
import Derived.Test.YtnjohcbamblilaaRulLawP
namespace Go.Proofs.Ytnjohcbamblilaa
open Go.RowKit
set_option linter.unusedVariables false
set_option linter.unusedSimpArgs false
set_option linter.unusedSectionVars false
set_option maxRecDepth 4000

theorem rulOk_code {xs : List Ruling} (h : ∀ x ∈ xs, rulOk x) : ∀ x ∈ xs, x.Code.size ≤ 9223372036854775807 := fun x hx => by
  have := (h x hx).2.1; omega

theorem eq37 (w : World) {a0 : Int} {a1 : ByteArray} {a2 : Int} : (Op.equalIn 10000 37 (.agg #[.int .i64 a0, .string a1, .int .i64 a2]) (.agg #[.int .i64 a0, .string a1, .int .i64 a2])).run Try.prog w = .ok true w := by
  have h1 : Try.prog.underlying 37 = some (.struct (Try.prog.fieldsOf 37)) := by rw [Program.fieldsOf, Try.underlying37]
  rw [run_equalIn_struct w 9999 37 _ _ h1 (by kernel_rfl)]
  simp only [Program.fieldsOf, Try.underlying37]
  simp [Op.eqFields, part, run_equalIn_string, run_equalIn_int, Try.underlying2, Try.underlying9]
theorem xneq37 {N : Nat} {σ : Env} {w : World} {d : Option Tmp} {ty : TypeId} {pos : String} {aft : Array Edge} {gd : Option (Nat × Bool)} {x y : Operand} {u : TypeId} {a0 : Int} {a1 : ByteArray} {a2 : Int}
    (hx : ev σ x = some (.agg #[.int .i64 a0, .string a1, .int .i64 a2])) (hy : ev σ y = some (.agg #[.int .i64 a0, .string a1, .int .i64 a2])) : XV Try.prog N σ ⟨d, .binOp .neq 37 x y u, ty, pos, aft, gd⟩ w (.bool (decide (1 = 0))) w := fun e he => by
  simp [execOp, he.eval hx, he.eval hy, run_eqGuard_agg (P := Try.prog) w .neq 37 x y _ _ (by kernel_rfl), run_neq_struct, eq37, Result.andThen]

set_option maxHeartbeats 1000000 in
theorem likeRulings_ok (p q : Option Addr) (n c m d : Nat) (xs : List Ruling) (w : World) (H : Sl Ruling.cells 3 w p n c xs) (K : Sl Ruling.cells 3 w q m d xs) : Ret Try.prog 84 [.slice p n c, .slice q m d] w (Pv w (.bool true)) := by
  refine ret_of_run (N := 26) Try.func84 rfl rfl rfl ?_
  have hn := H.len
  have hm := K.len
  have hn6 := H.n64
  have E : Ext w w := Ext.refl w
  refine run_seq ?_
  refine run_region ?_
  refine ov (xassign rfl) rfl rfl rfl ?_
  refine ops_nil ?_
  refine run_seq ?_
  refine run_seq ?_
  refine run_region ?_
  refine ov (xmove rfl) rfl rfl rfl ?_
  refine ov (xlen Try.underlying25 rfl) rfl rfl rfl ?_
  refine ov (xmove rfl) rfl rfl rfl ?_
  refine ov (xlen Try.underlying25 rfl) rfl rfl rfl ?_
  refine ov (xneq rfl rfl _ rfl) rfl rfl rfl ?_
  refine ods (fun c10 => ?_) (fun c10 => ?_)
  · exfalso; omega
  ·
    refine ops_nil ?_
    refine run_cond_f rfl ?_
    refine run_skip ?_
    refine run_seq ?_
    refine run_seq ?_
    refine run_region ?_
    refine ov (xassign rfl) rfl rfl rfl ?_
    refine ops_nil ?_
    refine run_block ?_
    refine run_loop (ι := Nat × World) (fun x_ => match x_ with | (k, wr) => (Ext w wr) ∧ (w.heap.size ≤ wr.heap.size) ∧ (k ≤ n)) (fun x_ => match x_ with | (k, wr) => [(0, .slice p n c), (1, .slice q m d), (5, .int .i64 (k : Int))]) (fun x_ => match x_ with | (k, wr) => wr) (fun x_ => match x_ with | (k, wr) => n - k) ?_ (0, w) (⟨E, Nat.le_refl _, by omega⟩) ⟨rfl, rfl, rfl, trivial⟩ rfl
    intro i_ hI_ hback4
    obtain ⟨k, wr⟩ := i_
    obtain ⟨E, lz_wr, hk⟩ := hI_
    try dsimp only
    have zr := E.size
    refine run_seq ?_
    refine run_seq ?_
    refine run_region ?_
    refine ov (xmove rfl) rfl rfl rfl ?_
    refine ov (xmove rfl) rfl rfl rfl ?_
    refine ov (xlen Try.underlying25 rfl) rfl rfl rfl ?_
    refine ov (xlss rfl rfl _ rfl) rfl rfl rfl ?_
    refine ods (fun c14 => ?_) (fun c14 => ?_)
    ·
      refine ops_nil ?_
      refine run_cond_t rfl ?_
      refine run_skip ?_
      refine run_seq ?_
      refine run_block ?_
      refine run_seq ?_
      refine run_draw (by kernel_rfl) (by kernel_rfl) ?_
      refine qv (fun w' x_ => xmove rfl) rfl rfl rfl ?_
      refine qv (fun w' x_ => xmove rfl) rfl rfl rfl ?_
      have h19 := (H.ext E).at (i := k) (by omega)
      refine qv (fun w' x_ => xindexN (i := k) Try.underlying25 Try.sizeOf37 rfl rfl rfl ((H.ext E).p (i := k) (by omega)) (by have := (H.ext E).len; omega)) rfl rfl rfl ?_
      refine qv (v := .agg #[.int .i64 xs[k].Day, .string xs[k].Code, .int .i64 xs[k].Kind]) (fun w' x_ => xloadN Try.isAgg37 Try.sizeOf37 rfl ((h19).ext x_) rfl) rfl rfl rfl ?_
      refine qv (fun w' x_ => xmove rfl) rfl rfl rfl ?_
      refine qv (fun w' x_ => xmove rfl) rfl rfl rfl ?_
      have h23 := (K.ext E).at (i := k) (by omega)
      refine qv (fun w' x_ => xindexN (i := k) Try.underlying25 Try.sizeOf37 rfl rfl rfl ((K.ext E).p (i := k) (by omega)) (by have := (K.ext E).len; omega)) rfl rfl rfl ?_
      refine qv (v := .agg #[.int .i64 xs[k].Day, .string xs[k].Code, .int .i64 xs[k].Kind]) (fun w' x_ => xloadN Try.isAgg37 Try.sizeOf37 rfl ((h23).ext x_) rfl) rfl rfl rfl ?_
      refine qv (fun w' x_ => xneq37 rfl rfl) rfl rfl rfl ?_
      refine qds (fun c25 => ?_) (fun c25 => ?_)
      · exfalso; first | omega | exact absurd c25 (by decide)
      ·
        refine q_nil ?_
        intro w1 e1
        have z1 := e1.size
        have E := E.trans e1
        refine run_cond_f rfl ?_
        refine run_skip ?_
        refine run_inBlock ?_
        refine run_region ?_
        refine ov (xmove rfl) rfl rfl rfl ?_
        refine ov (xadd rfl rfl (by unfold I64; omega)) rfl rfl rfl ?_
        refine ov (xassign rfl) rfl rfl rfl ?_
        refine ops_nil ?_
        refine run_sub ?_ (hback4 (k + 1, w1) (⟨E, by omega, by omega⟩) (by first | omega | (dsimp only; omega)))
        exact ⟨rfl, rfl, rfl, trivial⟩
    ·
      refine ops_nil ?_
      refine run_cond_f rfl ?_
      refine run_exit rfl ?_
      refine run_seq ?_
      refine run_region ?_
      refine ov (xassign rfl) rfl rfl rfl ?_
      refine ops_nil ?_
      refine run_ret Try.func84 (res1 rfl rfl) ?_
      exact ⟨_, rfl, rfl, E⟩

set_option maxHeartbeats 400000 in
theorem sum_ok (p : Option Addr) (n c : Nat) (xs : List Int) (w : World) (H : Sl i64c 1 w p n c xs) (hv : ∀ x ∈ xs, 0 ≤ x ∧ x ≤ 1000) (hn1 : n ≤ 1000) : Ret Try.prog 85 [.slice p n c] w (Pv w (.int .i64 (isum xs))) := by
  refine ret_of_run (N := 18) Try.func85 rfl rfl rfl ?_
  have hn := H.len
  have E : Ext w w := Ext.refl w
  refine run_seq ?_
  refine run_region ?_
  refine ov (xassign rfl) rfl rfl rfl ?_
  refine ops_nil ?_
  refine run_seq ?_
  refine run_region ?_
  refine ov (xassign rfl) rfl rfl rfl ?_
  refine ops_nil ?_
  refine run_seq ?_
  refine run_seq ?_
  refine run_region ?_
  refine ov (xassign rfl) rfl rfl rfl ?_
  refine ops_nil ?_
  refine run_block ?_
  refine run_loop (ι := Nat × Int × World) (fun x_ => match x_ with | (k, t, wr) => (Ext w wr) ∧ (w.heap.size ≤ wr.heap.size) ∧ (k ≤ n) ∧ (t = isum (xs.take k)) ∧ (0 ≤ t ∧ t ≤ k * 1000)) (fun x_ => match x_ with | (k, t, wr) => [(0, .slice p n c), (3, .int .i64 t), (4, .int .i64 (k : Int))]) (fun x_ => match x_ with | (k, t, wr) => wr) (fun x_ => match x_ with | (k, t, wr) => n - k) ?_ (0, 0, w) (⟨E, Nat.le_refl _, by omega, rfl, by omega⟩) ⟨rfl, rfl, rfl, trivial⟩ rfl
  intro i_ hI_ hback3
  obtain ⟨k, t, wr⟩ := i_
  obtain ⟨E, lz_wr, hk, ht, htb⟩ := hI_
  try dsimp only
  have zr := E.size
  refine run_seq ?_
  refine run_seq ?_
  refine run_region ?_
  refine ov (xmove rfl) rfl rfl rfl ?_
  refine ov (xmove rfl) rfl rfl rfl ?_
  refine ov (xlen Try.underlying55 rfl) rfl rfl rfl ?_
  refine ov (xlss rfl rfl _ rfl) rfl rfl rfl ?_
  refine ods (fun c8 => ?_) (fun c8 => ?_)
  ·
    refine ops_nil ?_
    refine run_cond_t rfl ?_
    refine run_skip ?_
    refine run_seq ?_
    refine run_block ?_
    refine run_region ?_
    refine ov (xmove rfl) rfl rfl rfl ?_
    refine ov (xmove rfl) rfl rfl rfl ?_
    refine ov (xmove rfl) rfl rfl rfl ?_
    have h14 := (H.ext E).at (i := k) (by omega)
    refine ov (xindexN (i := k) Try.underlying55 Try.sizeOf2 rfl rfl rfl ((H.ext E).p (i := k) (by omega)) (by have := (H.ext E).len; omega)) rfl rfl rfl ?_
    refine ov (v := .int .i64 xs[k]) (xloadz Try.isAgg2 rfl (h14) rfl) rfl rfl rfl ?_
    have hvk := hv _ (List.getElem_mem (by omega : k < xs.length))
    refine ov (xadd rfl rfl (by unfold I64; omega)) rfl rfl rfl ?_
    refine ov (xassign rfl) rfl rfl rfl ?_
    refine ops_nil ?_
    refine run_inBlock ?_
    refine run_region ?_
    refine ov (xmove rfl) rfl rfl rfl ?_
    refine ov (xadd rfl rfl (by unfold I64; omega)) rfl rfl rfl ?_
    refine ov (xassign rfl) rfl rfl rfl ?_
    refine ops_nil ?_
    refine run_sub ?_ (hback3 (k + 1, (t + xs[k]), wr) (⟨E, by omega, by omega, by rw [isum_step (by omega), ← ht], by omega⟩) (by first | omega | (dsimp only; omega)))
    exact ⟨rfl, rfl, rfl, trivial⟩
  ·
    refine ops_nil ?_
    refine run_cond_f rfl ?_
    refine run_exit rfl ?_
    refine run_seq ?_
    refine run_region ?_
    refine ov (xmove rfl) rfl rfl rfl ?_
    refine ov (xassign rfl) rfl rfl rfl ?_
    refine ops_nil ?_
    refine run_ret Try.func85 (res1 rfl rfl) ?_
    obtain rfl : k = n := by omega
    exact ⟨_, rfl, by rw [ht, List.take_of_length_le (by omega)], E⟩

set_option maxHeartbeats 2000000 in
theorem DrawStandingOn_ok (p : Option Addr) (n c : Nat) (bs : List Int) (w : World) (H : Sl u8c 1 w p n c bs) (hbs : ∀ x ∈ bs, 0 ≤ x ∧ x ≤ 255) : Ret Try.prog 83 [.slice p n c] w (fun v w' => Ext w w' ∧ ∃ (rs : List Ruling) (q : Option Addr) (m d : Nat) (s : ByteArray) (k : Int), v = .tuple #[.slice q m d, .string s, .int .i64 k] ∧ (∀ x ∈ rs, rulOk x) ∧ m ≤ 30 ∧ Ow Ruling.cells 3 37 w' w.heap.size w'.heap.size q m d rs ∧ s.size ≤ 100 ∧ (-30000 ≤ k ∧ k ≤ 30000)) := by
  refine ret_of_run (N := 26) Try.func83 rfl rfl rfl ?_
  have hfar := H.blk (fun x => by simp [u8c])
  have E : Ext w w := Ext.refl w
  refine run_seq ?_
  refine run_region ?_
  refine ov (xassign rfl) rfl rfl rfl ?_
  refine ov (xassign rfl) rfl rfl rfl ?_
  refine ov (xassign rfl) rfl rfl rfl ?_
  refine ops_nil ?_
  refine run_seq ?_
  refine run_region ?_
  refine ov (xmove rfl) rfl rfl rfl ?_
  refine oc (xcall Try.call112 rfl) rfl rfl rfl (l01From_ok _ _ _ _ _ (H.ext E) (by assumption) w.heap.size hfar (by omega)) ?_
  rintro _ w1 ⟨e1, b8_, rfl, hcb8, S⟩
  have z1 := e1.size
  have E := E.trans e1
  have hcc8 := S.cb
  have hbl8 := S.lt
  refine ov (xassign rfl) rfl rfl rfl ?_
  refine ops_nil ?_
  refine run_seq ?_
  refine run_region ?_
  refine ov (xmove rfl) rfl rfl rfl ?_
  refine oc (xcall Try.call133 rfl) rfl rfl rfl (l25List_ok b8_ w.heap.size _ S) ?_
  rintro _ w2 ⟨r10_0, r10_1, r10_2, r10_3, rfl, h10_0, h10_1, h10_2, m2, S2⟩
  have z2 := m2.size
  have E := m2.toExt E (by omega)
  replace S := S2
  refine ov (xassign rfl) rfl rfl rfl ?_
  refine ops_nil ?_
  refine run_seq ?_
  refine run_rg (τ := [(5, .pointer (some ⟨b8_, 0, none⟩)), (6, .slice r10_1 r10_2 r10_3)]) 18 [11, 12, 13, 14, 15, 16, 17, 18, 19, 20, 21, 22, 23, 24, 25, 2, 3, 4] (fun u_ => Mk b8_ (b8_ + 1) w2 u_ ∧ Src u_ b8_ w.heap.size) (fun i_ => Mk b8_ (b8_ + 1)) (fun i_ v_ u_ => match i_ with | 0 => v_ = .slice r10_1 r10_2 r10_3 | 1 => ∃ (y0_ : Nat), v_ = .slice (some ⟨y0_, 0, none⟩) 6 6 ∧ w2.heap.size ≤ y0_ ∧ Sl strc 1 u_ (some ⟨y0_, 0, none⟩) 6 6 ([⟨#[107, 110, 105, 102, 101]⟩, ⟨#[108, 101, 116, 116, 101, 114]⟩, ⟨#[112, 104, 111, 116, 111]⟩, ⟨#[114, 111, 112, 101]⟩, ⟨#[110, 111, 110, 101]⟩, ⟨#[]⟩] : List ByteArray) | 2 => v_ = .pointer (some ⟨b8_, 0, none⟩) | 3 => ∃ (y0_ : Int), v_ = .int .i64 y0_ ∧ 0 ≤ y0_ ∧ (y0_ < 6 ∨ y0_ = 0) | 4 => ∃ (y0_ : Nat) (y1_ : Nat) (y2_ : ByteArray), v_ = .pointer (some ⟨y0_, y1_, none⟩) ∧ b8_ < y0_ ∧ Cells u_ y0_ y1_ [.string y2_] ∧ (y2_).size ≤ 6 | 5 => ∃ (y0_ : ByteArray), v_ = .string y0_ ∧ (y0_).size ≤ 6 | 6 => v_ = .pointer (some ⟨b8_, 0, none⟩) | 7 => v_ = .pointer (some ⟨b8_, 0, none⟩) | 8 => ∃ (y0_ : Int), v_ = .int .i64 y0_ ∧ 0 ≤ y0_ ∧ (y0_ < 60 ∨ y0_ = 0) | 9 => ∃ (y0_ : Int), v_ = .int .i64 (100 + y0_) ∧ 0 ≤ y0_ ∧ (y0_ < 60 ∨ y0_ = 0) | 10 => v_ = .pointer (some ⟨b8_, 0, none⟩) | 11 => ∃ (y0_ : Int), v_ = .int .i64 y0_ ∧ 0 ≤ y0_ ∧ (y0_ < 60 ∨ y0_ = 0) | 12 => ∃ (y0_ : Int), v_ = .int .i64 (100 + y0_) ∧ 0 ≤ y0_ ∧ (y0_ < 60 ∨ y0_ = 0) | 13 => ∃ (y0_ : Nat) (y1_ : Int) (y2_ : Int), v_ = .slice (some ⟨y0_, 0, none⟩) 4 4 ∧ w2.heap.size ≤ y0_ ∧ Sl i64c 1 u_ (some ⟨y0_, 0, none⟩) 4 4 [(100 + y1_), (100 + y2_), 20000, 20001] ∧ 0 ≤ y1_ ∧ (y1_ < 60 ∨ y1_ = 0) ∧ 0 ≤ y2_ ∧ (y2_ < 60 ∨ y2_ = 0) | 14 => ∃ (y0_ : Int), v_ = .int .i64 y0_ ∧ -30000 ≤ y0_ ∧ y0_ ≤ 30000 | 15 => v_ = .slice r10_1 r10_2 r10_3 | 16 => ∃ (y0_ : ByteArray), v_ = .string y0_ ∧ (y0_).size ≤ 6 | 17 => ∃ (y0_ : Int), v_ = .int .i64 y0_ ∧ -30000 ≤ y0_ ∧ y0_ ≤ 30000 | _ => True) [(15, some 2), (16, some 3), (17, some 4)] (by kernel_rfl) (by kernel_rfl) (by kernel_rfl) (by kernel_rfl) (by kernel_rfl) (by kernel_rfl) ⟨rfl, rfl, trivial⟩ rfl (fun u_ e_ z_ => ⟨Mk.ofExt e_, S.ext e_⟩) ?_ ?_ ?_
  · intro i_ j_ hi_ hj_ hij_ v_ u_ u2_ I_ I2_ r_ g_
    have zu_ := I_.1.size
    clear hi_
    rcases (by omega : j_ = 0 ∨ j_ = 1 ∨ j_ = 2 ∨ j_ = 3 ∨ j_ = 4 ∨ j_ = 5 ∨ j_ = 6 ∨ j_ = 7 ∨ j_ = 8 ∨ j_ = 9 ∨ j_ = 10 ∨ j_ = 11 ∨ j_ = 12 ∨ j_ = 13 ∨ j_ = 14 ∨ j_ = 15 ∨ j_ = 16 ∨ j_ = 17) with rfl | rfl | rfl | rfl | rfl | rfl | rfl | rfl | rfl | rfl | rfl | rfl | rfl | rfl | rfl | rfl | rfl | rfl
    · exact g_
    · obtain ⟨g12_0, rfl, f12_0, f12_1⟩ := g_
      exact ⟨g12_0, rfl, f12_0, f12_1.off r_ (by simp only [pb, Option.getD_some]; omega)⟩
    · exact g_
    · exact g_
    · obtain ⟨g15_0, g15_1, g15_2, rfl, f15_0, f15_1, f15_2⟩ := g_
      exact ⟨g15_0, g15_1, g15_2, rfl, f15_0, r_.cells f15_1 (by omega), f15_2⟩
    · exact g_
    · exact g_
    · exact g_
    · exact g_
    · exact g_
    · exact g_
    · exact g_
    · exact g_
    · obtain ⟨g24_0, g24_1, g24_2, rfl, f24_0, f24_1, f24_2, f24_3, f24_4, f24_5⟩ := g_
      exact ⟨g24_0, g24_1, g24_2, rfl, f24_0, f24_1.off r_ (by simp only [pb, Option.getD_some]; omega), f24_2, f24_3, f24_4, f24_5⟩
    · exact g_
    · exact g_
    · exact g_
    · exact g_
  ·
    refine rga [] (by kernel_rfl) ?_ ?_
    · intro u_ I_
      have zu_ := I_.1.size
      refine rg_val (xmove rfl) rfl I_ (Mk.refl _ _ _) rfl
    refine rga [] (by kernel_rfl) ?_ ?_
    · intro u_ I_
      have zu_ := I_.1.size
      refine rg_build (len := 6) (vs := [.string ⟨#[107, 110, 105, 102, 101]⟩, .string ⟨#[108, 101, 116, 116, 101, 114]⟩, .string ⟨#[112, 104, 111, 116, 111]⟩, .string ⟨#[114, 111, 112, 101]⟩, .string ⟨#[110, 111, 110, 101]⟩, .string ⟨#[]⟩]) (cs := [.string ⟨#[107, 110, 105, 102, 101]⟩, .string ⟨#[108, 101, 116, 116, 101, 114]⟩, .string ⟨#[112, 104, 111, 116, 111]⟩, .string ⟨#[114, 111, 112, 101]⟩, .string ⟨#[110, 111, 110, 101]⟩, .string ⟨#[]⟩]) (sz := 1) Try.underlying66 inf9 rfl rfl (by decide) (by rfl) (by rfl) (by simp [Value.cells]) rfl rfl ?_
      intro b_ w_ e_ hb_ O_
      refine ⟨⟨I_.1.trans (Mk.ofExt e_), I_.2.ext e_⟩, Mk.ofExt e_, ⟨b_, rfl, (by omega), (Own.ow (lo := b_) (hi := b_ + 1) (enc := strc) (sz := 1) (xs := ([⟨#[107, 110, 105, 102, 101]⟩, ⟨#[108, 101, 116, 116, 101, 114]⟩, ⟨#[112, 104, 111, 116, 111]⟩, ⟨#[114, 111, 112, 101]⟩, ⟨#[110, 111, 110, 101]⟩, ⟨#[]⟩] : List ByteArray)) (n := 6) (by simpa [strc] using O_) rfl (by omega) (Nat.le_refl _) (by omega) (by intro x hx; rfl)).sl⟩⟩
    refine rga [] (by kernel_rfl) ?_ ?_
    · intro u_ I_
      have zu_ := I_.1.size
      refine rg_val (xmove rfl) rfl I_ (Mk.refl _ _ _) rfl
    refine rga [(2, some 13)] (by kernel_rfl) ?_ ?_
    · rintro u_ I_ _ rfl
      have zu_ := I_.1.size
      refine rg_call (xcall Try.call114 rfl) rfl (l01Next_ok b8_ w.heap.size (6) _ I_.2) ?_
      rintro _ w_ ⟨r_0, rfl, h_0, h_1, m_, S_⟩
      exact ⟨⟨I_.1.trans m_, S_⟩, m_, ⟨r_0, rfl, h_0, h_1⟩⟩
    refine rga [(1, some 12), (3, some 14)] (by kernel_rfl) ?_ ?_
    · rintro u_ I_ _ ⟨g12_0, rfl, f12_0, f12_1⟩ _ ⟨g14_0, rfl, f14_0, f14_1⟩
      have zu_ := I_.1.size
      have hh_ := (f12_1).at (i := (g14_0).toNat) (by show (g14_0).toNat < 6; omega)
      refine rg_val (xindexN (i := (g14_0).toNat) Try.underlying66 Try.sizeOf9 rfl rfl (by omega) ((f12_1).p (i := (g14_0).toNat) (by show (g14_0).toNat < 6; omega)) (by omega)) rfl I_ (Mk.refl _ _ _) ?_
      exact ⟨_, _, _, rfl, by simp only [pb, Option.getD_some]; omega, hh_, (by decide : ∀ x ∈ ([⟨#[107, 110, 105, 102, 101]⟩, ⟨#[108, 101, 116, 116, 101, 114]⟩, ⟨#[112, 104, 111, 116, 111]⟩, ⟨#[114, 111, 112, 101]⟩, ⟨#[110, 111, 110, 101]⟩, ⟨#[]⟩] : List ByteArray), x.size ≤ 6) _ (List.getElem_mem _)⟩
    refine rga [(4, some 15)] (by kernel_rfl) ?_ ?_
    · rintro u_ I_ _ ⟨g15_0, g15_1, g15_2, rfl, f15_0, f15_1, f15_2⟩
      have zu_ := I_.1.size
      refine rg_val (xloadz Try.isAgg9 rfl f15_1 rfl) rfl I_ (Mk.refl _ _ _) ⟨g15_2, rfl, f15_2⟩
    refine rga [] (by kernel_rfl) ?_ ?_
    · intro u_ I_
      have zu_ := I_.1.size
      refine rg_val (xmove rfl) rfl I_ (Mk.refl _ _ _) rfl
    refine rga [] (by kernel_rfl) ?_ ?_
    · intro u_ I_
      have zu_ := I_.1.size
      refine rg_val (xmove rfl) rfl I_ (Mk.refl _ _ _) rfl
    refine rga [(7, some 18)] (by kernel_rfl) ?_ ?_
    · rintro u_ I_ _ rfl
      have zu_ := I_.1.size
      refine rg_call (xcall Try.call114 rfl) rfl (l01Next_ok b8_ w.heap.size (60) _ I_.2) ?_
      rintro _ w_ ⟨r_0, rfl, h_0, h_1, m_, S_⟩
      exact ⟨⟨I_.1.trans m_, S_⟩, m_, ⟨r_0, rfl, h_0, h_1⟩⟩
    refine rga [(8, some 19)] (by kernel_rfl) ?_ ?_
    · rintro u_ I_ _ ⟨g19_0, rfl, f19_0, f19_1⟩
      have zu_ := I_.1.size
      refine rg_val (xadd rfl rfl (by unfold I64; omega)) rfl I_ (Mk.refl _ _ _) ⟨g19_0, rfl, f19_0, f19_1⟩
    refine rga [] (by kernel_rfl) ?_ ?_
    · intro u_ I_
      have zu_ := I_.1.size
      refine rg_val (xmove rfl) rfl I_ (Mk.refl _ _ _) rfl
    refine rga [(10, some 21)] (by kernel_rfl) ?_ ?_
    · rintro u_ I_ _ rfl
      have zu_ := I_.1.size
      refine rg_call (xcall Try.call114 rfl) rfl (l01Next_ok b8_ w.heap.size (60) _ I_.2) ?_
      rintro _ w_ ⟨r_0, rfl, h_0, h_1, m_, S_⟩
      exact ⟨⟨I_.1.trans m_, S_⟩, m_, ⟨r_0, rfl, h_0, h_1⟩⟩
    refine rga [(11, some 22)] (by kernel_rfl) ?_ ?_
    · rintro u_ I_ _ ⟨g22_0, rfl, f22_0, f22_1⟩
      have zu_ := I_.1.size
      refine rg_val (xadd rfl rfl (by unfold I64; omega)) rfl I_ (Mk.refl _ _ _) ⟨g22_0, rfl, f22_0, f22_1⟩
    refine rga [(9, some 20), (12, some 23)] (by kernel_rfl) ?_ ?_
    · rintro u_ I_ _ ⟨g20_0, rfl, f20_0, f20_1⟩ _ ⟨g23_0, rfl, f23_0, f23_1⟩
      have zu_ := I_.1.size
      refine rg_build (len := 4) (vs := [.int .i64 (100 + g20_0), .int .i64 (100 + g23_0), .int .i64 20000, .int .i64 20001]) (cs := [.int .i64 (100 + g20_0), .int .i64 (100 + g23_0), .int .i64 20000, .int .i64 20001]) (sz := 1) Try.underlying55 inf2 rfl rfl (by decide) (by rfl) (by rfl) (by simp [Value.cells]) rfl rfl ?_
      intro b_ w_ e_ hb_ O_
      refine ⟨⟨I_.1.trans (Mk.ofExt e_), I_.2.ext e_⟩, Mk.ofExt e_, ⟨b_, g20_0, g23_0, rfl, (by omega), (Own.ow (lo := b_) (hi := b_ + 1) (enc := i64c) (sz := 1) (xs := [(100 + g20_0), (100 + g23_0), 20000, 20001]) (n := 4) (by simpa [i64c, strc] using O_) rfl (by omega) (Nat.le_refl _) (by omega) (by intro x hx; rfl)).sl, f20_0, f20_1, f23_0, f23_1⟩⟩
    refine rga [(6, some 17), (13, some 24)] (by kernel_rfl) ?_ ?_
    · rintro u_ I_ _ rfl _ ⟨g24_0, g24_1, g24_2, rfl, f24_0, f24_1, f24_2, f24_3, f24_4, f24_5⟩
      have zu_ := I_.1.size
      refine rg_call (xcall Try.call115 rfl) rfl (l01Pick_ok b8_ w.heap.size _ _ _ [(100 + g24_1), (100 + g24_2), 20000, 20001] 30000 _ I_.2 f24_1 (by intro x hx; simp only [List.mem_cons, List.not_mem_nil, or_false] at hx; omega) (by omega) (by simp only [pb, Option.getD_some]; omega)) ?_
      rintro _ w_ ⟨r_0, rfl, h_0, m_, S_⟩
      exact ⟨⟨I_.1.trans m_, S_⟩, m_, ⟨r_0, rfl, h_0⟩⟩
    refine rga [(0, some 11)] (by kernel_rfl) ?_ ?_
    · rintro u_ I_ _ rfl
      have zu_ := I_.1.size
      refine rg_val (xassign rfl) rfl I_ (Mk.refl _ _ _) rfl
    refine rga [(5, some 16)] (by kernel_rfl) ?_ ?_
    · rintro u_ I_ _ ⟨g16_0, rfl, f16_0⟩
      have zu_ := I_.1.size
      refine rg_val (xassign rfl) rfl I_ (Mk.refl _ _ _) ⟨g16_0, rfl, f16_0⟩
    refine rga [(14, some 25)] (by kernel_rfl) ?_ ?_
    · rintro u_ I_ _ ⟨g25_0, rfl, f25_0⟩
      have zu_ := I_.1.size
      refine rg_val (xassign rfl) rfl I_ (Mk.refl _ _ _) ⟨g25_0, rfl, f25_0⟩
    exact rga_nil
  ·
    rintro w3 I_ _ rfl _ ⟨g3_0, rfl, f3_0⟩ _ ⟨g4_0, rfl, f4_0⟩
    have m3 := I_.1
    have z3 := m3.size
    have E := m3.toExt E (by omega)
    replace S := I_.2
    replace h10_2 := h10_2.off m3 (by omega)
    refine ops_nil ?_
    refine run_ret Try.func83 (res3 rfl rfl rfl rfl) ?_
    exact ⟨_, rfl, E, _, _, _, _, _, _, rfl, h10_0, by omega, h10_2.wide (by omega) (by omega), by omega, by omega⟩

set_option maxHeartbeats 2000000 in
theorem DrawAddRuling_ok (p : Option Addr) (n c : Nat) (bs : List Int) (w : World) (H : Sl u8c 1 w p n c bs) (hbs : ∀ x ∈ bs, 0 ≤ x ∧ x ≤ 255) : Ret Try.prog 82 [.slice p n c] w (fun v w' => Ext w w' ∧ ∃ (rs : List Ruling) (q : Option Addr) (m d : Nat) (r : Ruling), v = .tuple #[.slice q m d, .agg #[.int .i64 r.Day, .string r.Code, .int .i64 r.Kind]] ∧ (∀ x ∈ rs, rulOk x) ∧ m ≤ 30 ∧ Ow Ruling.cells 3 37 w' w.heap.size w'.heap.size q m d rs ∧ rulOk r) := by
  refine ret_of_run (N := 19) Try.func82 rfl rfl rfl ?_
  have hfar := H.blk (fun x => by simp [u8c])
  have E : Ext w w := Ext.refl w
  refine run_seq ?_
  refine run_region ?_
  refine ov (xassign rfl) rfl rfl rfl ?_
  refine oalloc Try.zeroValue37 rfl rfl ?_
  intro b1 w1 e1 hb1 hz1 O1
  have E := E.trans e1
  replace O1 : Own w1 b1 [.int .i64 0, .string ⟨#[]⟩, .int .i64 0] 37 := O1
  refine ops_nil ?_
  refine run_seq ?_
  refine run_region ?_
  refine ov (xmove rfl) rfl rfl rfl ?_
  refine oc (xcall Try.call112 rfl) rfl rfl rfl (l01From_ok _ _ _ _ _ (H.ext E) (by assumption) w.heap.size hfar (by omega)) ?_
  rintro _ w2 ⟨e2, b7_, rfl, hcb7, S⟩
  have z2 := e2.size
  have E := E.trans e2
  replace O1 := O1.ext e2
  have hcc7 := S.cb
  have hbl7 := S.lt
  refine ov (xassign rfl) rfl rfl rfl ?_
  refine ops_nil ?_
  refine run_seq ?_
  refine run_region ?_
  refine ov (xmove rfl) rfl rfl rfl ?_
  refine oc (xcall Try.call133 rfl) rfl rfl rfl (l25List_ok b7_ w.heap.size _ S) ?_
  rintro _ w3 ⟨r9_0, r9_1, r9_2, r9_3, rfl, h9_0, h9_1, h9_2, m3, S3⟩
  have z3 := m3.size
  have E := m3.toExt E (by omega)
  replace O1 := m3.own O1 (by omega)
  replace S := S3
  refine ov (xassign rfl) rfl rfl rfl ?_
  refine ops_nil ?_
  refine run_seq ?_
  refine run_region ?_
  refine ov (xmove rfl) rfl rfl rfl ?_
  refine ov (xmove rfl) rfl rfl rfl ?_
  refine ov (xmove rfl) rfl rfl rfl ?_
  refine ov (xmove rfl) rfl rfl rfl ?_
  refine oc (xcall Try.call114 rfl) rfl rfl rfl (l01Next_ok b7_ w.heap.size (60) _ S) ?_
  rintro _ w4 ⟨r14_0, rfl, h14_0, h14_1, m4, S4⟩
  have z4 := m4.size
  have E := m4.toExt E (by omega)
  replace h9_2 := h9_2.off m4 (by omega)
  replace O1 := m4.own O1 (by omega)
  replace S := S4
  refine ov (xadd rfl rfl (by unfold I64; omega)) rfl rfl rfl ?_
  refine obuild (cs := [.int .i64 (100 + r14_0), .int .i64 200, .int .i64 20000, .int .i64 20001]) (sz := 1) Try.underlying55 inf2 rfl rfl (by decide) rfl rfl (by simp [Value.cells]) rfl rfl rfl ?_
  intro b5 w5 e5 hb5 hz5 O5
  have E := E.trans e5
  replace S := S.ext e5
  replace h9_2 := h9_2.ext e5
  replace O1 := O1.ext e5
  have G5 : Ow i64c 1 2 w5 b5 (b5 + 1) (some ⟨b5, 0, none⟩) 4 4 ([(100 + r14_0), 200, 20000, 20001] : List Int) := Own.ow (by simpa [i64c, strc] using O5) rfl (by omega) (Nat.le_refl _) (by omega) (by intro x hx; rfl)
  refine oc (xcall Try.call115 rfl) rfl rfl rfl (l01Pick_ok b7_ w.heap.size _ _ _ [(100 + r14_0), 200, 20000, 20001] 30000 _ S (G5.sl) (by intro x hx; simp only [List.mem_cons, List.not_mem_nil, or_false] at hx; omega) (by omega) (by simp only [pb, Option.getD_some]; omega)) ?_
  rintro _ w6 ⟨r17_0, rfl, h17_0, m6, S6⟩
  have z6 := m6.size
  have E := m6.toExt E (by omega)
  replace h9_2 := h9_2.off m6 (by omega)
  replace G5 := G5.off m6 (by omega)
  replace O1 := m6.own O1 (by omega)
  replace S := S6
  refine oc (xcall Try.call134 rfl) rfl rfl rfl (l25Good_ok b7_ w.heap.size (r17_0) _ S (by omega)) ?_
  rintro _ w7 ⟨r18_0, rfl, h18_0, m7, S7⟩
  have z7 := m7.size
  have E := m7.toExt E (by omega)
  replace h9_2 := h9_2.off m7 (by omega)
  replace G5 := G5.off m7 (by omega)
  replace O1 := m7.own O1 (by omega)
  replace S := S7
  refine ov (xassign rfl) rfl rfl rfl ?_
  refine ostoreN (vs := _) Try.sizeOf37 rfl rfl O1 rfl (by simp) (by simp [Value.oneCell']) rfl ?_
  intro w8 on8 O8
  have hz8 := on8.size
  have E := on8.ext E (by omega)
  replace S := S.off (Mk.ofOnly on8 (Nat.le_refl _) (Nat.lt_succ_self _)) (by omega)
  replace h9_2 := h9_2.only on8 (by omega)
  replace G5 := G5.only on8 (by omega)
  replace O8 : Own w8 b1 [.int .i64 (r18_0).Day, .string (r18_0).Code, .int .i64 (r18_0).Kind] 37 := O8
  refine ops_nil ?_
  refine run_ret Try.func82 (rescT rfl rfl rfl (run_loadVar_cells Try.isAgg37 Try.sizeOf37 O8.cells rfl)) ?_
  exact ⟨_, rfl, E, _, _, _, _, r18_0, rfl, h9_0, by omega, h9_2.wide (by omega) (by omega), h18_0⟩
end Go.Proofs.Ytnjohcbamblilaa
