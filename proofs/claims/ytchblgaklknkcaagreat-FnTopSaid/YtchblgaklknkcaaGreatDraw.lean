/-
  The source of draws. No condition beyond those written in each theorem.
-/
import Derived.Test.YtchblgaklknkcaaGreatRg
import Derived.Test.YtchblgaklknkcaaGreatMore
namespace Go.Proofs.YtchblgaklknkcaaGreat
open Go.RowKit
set_option linter.unusedVariables false
set_option linter.unusedSimpArgs false
set_option linter.unusedSectionVars false
set_option maxRecDepth 4000
def u8c (k : Int) : List Value := [.int .u8 k]
structure CodeSl (b cb : Nat) (w : World) (p : Option Addr) (n c : Nat) (bs : List Int) : Prop where
  sl : Sl u8c 1 w p n c bs
  far : n = 0 ∨ pb p < cb
  cb : cb ≤ b
theorem CodeSl.ext {b cb : Nat} {w w' : World} {p : Option Addr} {n c : Nat} {bs : List Int} (h : CodeSl b cb w p n c bs) (e : Ext w w') : CodeSl b cb w' p n c bs := ⟨h.sl.ext e, h.far, h.cb⟩
theorem CodeSl.mk' {b cb lo hi : Nat} {w w' : World} {p : Option Addr} {n c : Nat} {bs : List Int} (h : CodeSl b cb w p n c bs) (m : Mk lo hi w w') (hd : cb ≤ lo) : CodeSl b cb w' p n c bs :=
  ⟨by
    have := h.cb
    rcases h.far with h0 | h0
    · exact h.sl.empty h0
    · exact h.sl.off m (by omega), h.far, h.cb⟩
theorem CodeSl.off {b cb lo hi : Nat} {w w' : World} {p : Option Addr} {n c : Nat} {bs : List Int} (h : CodeSl b cb w p n c bs) (m : Mk lo hi w w') (hd : cb ≤ lo) : CodeSl b cb w' p n c bs := h.mk' m hd
theorem CodeSl.only {b cb b' : Nat} {w w' : World} {p : Option Addr} {n c : Nat} {bs : List Int} (h : CodeSl b cb w p n c bs) (o : Only b' w w') (hd : b' = b) : CodeSl b cb w' p n c bs :=
  h.mk' (Mk.ofOnly o (Nat.le_refl _) (Nat.lt_succ_self _)) (by have := h.cb; omega)
def Src (w : World) (b cb : Nat) : Prop := ∃ (p : Option Addr) (n c : Nat) (bs : List Int) (at_ seed : Int), Own w b [.slice p n c, .int .i64 at_, .int .i64 seed] 93 ∧ CodeSl b cb w p n c bs ∧ (∀ x ∈ bs, 0 ≤ x ∧ x ≤ 255) ∧ 0 ≤ at_ ∧ at_ ≤ n ∧ 0 ≤ seed ∧ seed < 2147483647
theorem Src.cb {w : World} {b cb : Nat} : Src w b cb → cb ≤ b := fun ⟨_, _, _, _, _, _, _, h, _⟩ => h.cb
theorem Src.lt {w : World} {b cb : Nat} : Src w b cb → b < w.heap.size := fun ⟨_, _, _, _, _, _, h, _⟩ => h.lt
theorem Src.ext {w w' : World} {b cb : Nat} : Src w b cb → Ext w w' → Src w' b cb := fun ⟨p, n, c, bs, a, s, h1, h2, h3⟩ e => ⟨p, n, c, bs, a, s, h1.ext e, h2.ext e, h3⟩
theorem Src.off {w w' : World} {b cb lo hi : Nat} : Src w b cb → Mk lo hi w w' → cb ≤ lo ∧ (b < lo ∨ hi ≤ b) → Src w' b cb := fun ⟨p, n, c, bs, a, s, h1, h2, h3⟩ m hd => ⟨p, n, c, bs, a, s, m.own h1 (by omega), h2.mk' m (by omega), h3⟩
structure SlF {α : Type} (enc : α → List Value) (sz : Nat) (w : World) (lo hi : Nat) (p : Option Addr) (n c : Nat) (xs : List α) : Prop where
  sl : Sl enc sz w p n c xs
  far : n = 0 ∨ (lo ≤ pb p ∧ pb p < hi)
section
variable {α : Type} {enc : α → List Value} {sz lo lo' l h' hi hi' : Nat} {T : TypeId} {w w' : World} {p : Option Addr} {n c : Nat} {xs : List α}
theorem SlF.ext (h : SlF enc sz w lo hi p n c xs) (e : Ext w w') : SlF enc sz w' lo hi p n c xs := ⟨h.sl.ext e, h.far⟩
theorem SlF.off (h : SlF enc sz w lo hi p n c xs) (m : Mk l h' w w') (hd : h' ≤ lo ∨ hi ≤ l) : SlF enc sz w' lo hi p n c xs :=
  ⟨by
    rcases h.far with h0 | h0
    · exact h.sl.empty h0
    · exact h.sl.off m (by omega), h.far⟩
theorem SlF.only {b : Nat} (h : SlF enc sz w lo hi p n c xs) (o : Only b w w') (hd : b < lo ∨ hi ≤ b) : SlF enc sz w' lo hi p n c xs := h.off (Mk.ofOnly o (Nat.le_refl _) (Nat.lt_succ_self _)) hd
theorem SlF.wide (h : SlF enc sz w lo hi p n c xs) (hl : lo' ≤ lo) (hh : hi ≤ hi') : SlF enc sz w lo' hi' p n c xs := ⟨h.sl, h.far.imp id (fun h => by omega)⟩
theorem Ow.slF (h : Ow enc sz T w lo hi p n c xs) (hl : lo' ≤ lo) (hh : hi ≤ hi') : SlF enc sz w lo' hi' p n c xs :=
  ⟨h.sl, by
    have hc := h.cap
    rcases h.row with ⟨_, h2⟩ | ⟨b, s, rfl, h3, h4, _⟩
    · left; omega
    · right; simp only [pb, Option.getD_some]; omega⟩
end
set_option maxHeartbeats 1000000 in
theorem l01Next_ok (b cb : Nat) (k : Int) (w : World) (S0 : Src w b cb) : Ret Tryz.prog 60 [.pointer (some ⟨b, 0, none⟩), .int .i64 k] w (fun v w' => ∃ r : Int, v = .int .i64 r ∧ 0 ≤ r ∧ (r < k ∨ r = 0) ∧ Mk b (b + 1) w w' ∧ Src w' b cb) := by
 refine ret_of_run (N := 78) Tryz.func60 rfl rfl rfl ?_
 obtain ⟨p, n, c, bs, at_, seed, O, H, hbs, ha0, ha1, hs0, hs1⟩ := S0
 have hbl := O.lt
 have hn := H.sl.len
 have hn6 := H.sl.n64
 have E : Mk b (b + 1) w w := Mk.refl _ _ _
 refine sr_ ?_
 refine vn_ rfl rfl rfl ?_
 refine run_seq ?_
 refine sr_ ?_
 refine vm_ rfl rfl rfl ?_
 refine oz_ (xleq rfl rfl _ rfl) rfl rfl ?_
 refine ods (fun c7 => ?_) (fun c7 => ?_)
 ·
  refine ct_ rfl ?_
  refine sr_ ?_
  refine vn_ rfl rfl rfl ?_
  refine run_ret Tryz.func60 (res1 rfl rfl) ?_
  exact ⟨_, rfl, 0, rfl, by omega, by omega, E, p, n, c, bs, _, _, O, H, hbs, by omega, by omega, by omega, by omega⟩
 refine cf_ rfl ?_
 refine sr_ ?_
 refine vm_ rfl rfl rfl ?_
 refine vm_ rfl rfl rfl ?_
 refine oz_ (xnilCheck rfl) rfl rfl ?_
 refine oz_ (xfieldAddr fo93f2 rfl) rfl rfl ?_
 refine oz_ (v := .int .i64 seed) (xload1 Tryz.isAgg2 rfl (O.cells) rfl) rfl rfl ?_
 refine oz_ (xmul rfl rfl (by unfold I64; omega)) rfl rfl ?_
 refine oz_ (xadd rfl rfl (by unfold I64; omega)) rfl rfl ?_
 refine oz_ (xrem rfl rfl (by omega) (by omega)) rfl rfl ?_
 refine oz_ (xnilCheck rfl) rfl rfl ?_
 refine oz_ (xfieldAddr fo93f2 rfl) rfl rfl ?_
 refine ostore1 Tryz.sizeOf2 rfl rfl O (by simp) rfl rfl ?_
 intro w1 on1 O1
 have hz1 := on1.size
 have E := E.trans (Mk.ofOnly on1 (by omega) (by omega))
 replace H := H.only on1 (by omega)
 replace O1 : Own w1 b [.slice p n c, .int .i64 at_, .int .i64 (((seed * 48271) + 29) % 2147483647)] 93 := O1
 refine ops_nil ?_
 refine sr_ ?_
 refine vm_ rfl rfl rfl ?_
 refine oz_ (xnilCheck rfl) rfl rfl ?_
 refine oz_ (xfieldAddr fo93f2 rfl) rfl rfl ?_
 refine oz_ (v := .int .i64 (((seed * 48271) + 29) % 2147483647)) (xload1 Tryz.isAgg2 rfl (O1.cells) rfl) rfl rfl ?_
 refine oz_ (xquo rfl rfl (by omega) (by omega) (by unfold I64; omega)) rfl rfl ?_
 refine vn_ rfl rfl rfl ?_
 refine run_seq ?_
 refine run_seq ?_
 refine run_draw (by kernel_rfl) (by kernel_rfl) ?_
 refine qv (fun w' x_ => xmove rfl) rfl rfl rfl ?_
 refine qv (fun w' x_ => xnilCheck rfl) rfl rfl rfl ?_
 refine qv (fun w' x_ => xfieldAddr fo93f1 rfl) rfl rfl rfl ?_
 refine qv (v := .int .i64 at_) (fun w' x_ => xload1 Tryz.isAgg3 rfl ((O1.cells).ext x_) rfl) rfl rfl rfl ?_
 refine qv (fun w' x_ => xmove rfl) rfl rfl rfl ?_
 refine qv (fun w' x_ => xnilCheck rfl) rfl rfl rfl ?_
 refine qv (fun w' x_ => xfieldAddr fo93f0 rfl) rfl rfl rfl ?_
 refine qv (v := .slice p n c) (fun w' x_ => xload1 Tryz.isAgg22 rfl ((O1.cells).ext x_) rfl) rfl rfl rfl ?_
 refine qv (fun w' x_ => xlen Tryz.underlying22 rfl) rfl rfl rfl ?_
 refine qv (fun w' x_ => xlss rfl rfl _ rfl) rfl rfl rfl ?_
 refine qds (fun c32 => ?_) (fun c32 => ?_)
 rotate_left
 ·
  refine q_nil ?_
  intro w2 e2
  have z2 := e2.size
  have E := E.trans (Mk.ofExt e2)
  replace H := H.ext e2
  replace O1 := O1.ext e2
  refine run_cond_f rfl ?_
  refine run_skip ?_
  refine sr_ ?_
  refine vm_ rfl rfl rfl ?_
  refine vm_ rfl rfl rfl ?_
  refine oz_ (xrem rfl rfl (by omega) (by omega)) rfl rfl ?_
  refine vn_ rfl rfl rfl ?_
  refine run_ret Tryz.func60 (res1 rfl rfl) ?_
  exact ⟨_, rfl, _, rfl, Int.emod_nonneg _ (by omega), .inl (Int.emod_lt_of_pos _ (by omega)), E, p, n, c, bs, _, _, O1, H, hbs, by omega, by omega, by omega, by omega⟩
 refine q_nil ?_
 intro w2 e2
 have z2 := e2.size
 have E := E.trans (Mk.ofExt e2)
 replace H := H.ext e2
 replace O1 := O1.ext e2
 refine run_cond_t rfl ?_
 refine run_seq ?_
 refine run_draw (by kernel_rfl) (by kernel_rfl) ?_
 refine qv (fun w' x_ => xmove rfl) rfl rfl rfl ?_
 refine qv (fun w' x_ => xmove rfl) rfl rfl rfl ?_
 refine qv (fun w' x_ => xnilCheck rfl) rfl rfl rfl ?_
 refine qv (fun w' x_ => xfieldAddr fo93f0 rfl) rfl rfl rfl ?_
 refine qv (v := .slice p n c) (fun w' x_ => xload1 Tryz.isAgg22 rfl ((O1.cells).ext x_) rfl) rfl rfl rfl ?_
 refine qv (fun w' x_ => xmove rfl) rfl rfl rfl ?_
 refine qv (fun w' x_ => xnilCheck rfl) rfl rfl rfl ?_
 refine qv (fun w' x_ => xfieldAddr fo93f1 rfl) rfl rfl rfl ?_
 refine qv (v := .int .i64 at_) (fun w' x_ => xload1 Tryz.isAgg3 rfl ((O1.cells).ext x_) rfl) rfl rfl rfl ?_
 have h42 := (H.sl).at (i := at_.toNat) (by omega)
 refine qv (fun w' x_ => xindexN (i := at_.toNat) Tryz.underlying22 Tryz.sizeOf5 rfl rfl (by omega) ((H.sl).p (i := at_.toNat) (by omega)) (by have := (H.sl).len; omega)) rfl rfl rfl ?_
 refine qv (v := .int .u8 bs[at_.toNat]) (fun w' x_ => xloadz Tryz.isAgg5 rfl ((h42).ext x_) rfl) rfl rfl rfl ?_
 have hbb := hbs _ (List.getElem_mem (by omega : at_.toNat < bs.length))
 refine qv (fun w' x_ => xconv Tryz.underlying5 Tryz.underlying2 rfl (by unfold I64; omega)) rfl rfl rfl ?_
 refine qv (fun w' x_ => xadd rfl rfl (by unfold I64; omega)) rfl rfl rfl ?_
 refine qv (fun w' x_ => xassign rfl) rfl rfl rfl ?_
 refine q_nil ?_
 intro w3 e3
 have z3 := e3.size
 have E := E.trans (Mk.ofExt e3)
 replace H := H.ext e3
 replace O1 := O1.ext e3
 refine sr_ ?_
 refine vm_ rfl rfl rfl ?_
 refine oz_ (xnilCheck rfl) rfl rfl ?_
 refine oz_ (xfieldAddr fo93f1 rfl) rfl rfl ?_
 refine oz_ (v := .int .i64 at_) (xload1 Tryz.isAgg3 rfl (O1.cells) rfl) rfl rfl ?_
 refine oz_ (xadd rfl rfl (by unfold I64; omega)) rfl rfl ?_
 refine oz_ (xnilCheck rfl) rfl rfl ?_
 refine oz_ (xfieldAddr fo93f1 rfl) rfl rfl ?_
 refine ostore1 Tryz.sizeOf3 rfl rfl O1 (by simp) rfl rfl ?_
 intro w4 on4 O4
 have hz4 := on4.size
 have E := E.trans (Mk.ofOnly on4 (by omega) (by omega))
 replace H := H.only on4 (by omega)
 replace O4 : Own w4 b [.slice p n c, .int .i64 (at_ + 1), .int .i64 (((seed * 48271) + 29) % 2147483647)] 93 := O4
 refine ops_nil ?_
 refine sr_ ?_
 refine vm_ rfl rfl rfl ?_
 refine oz_ (xleq rfl rfl _ rfl) rfl rfl ?_
 refine ods (fun c54 => ?_) (fun c54 => ?_)
 rotate_left
 ·
  refine vm_ rfl rfl rfl ?_
  refine o2_ rfl rfl rfl rfl ?_
  refine o2_ rfl rfl rfl rfl ?_
  refine o2_ rfl rfl rfl rfl ?_
  refine oz_ (xpick_f rfl rfl) rfl rfl ?_
  refine cf_ rfl ?_
  refine sr_ ?_
  refine vm_ rfl rfl rfl ?_
  refine vm_ rfl rfl rfl ?_
  refine oz_ (xrem rfl rfl (by omega) (by omega)) rfl rfl ?_
  refine vn_ rfl rfl rfl ?_
  refine run_ret Tryz.func60 (res1 rfl rfl) ?_
  exact ⟨_, rfl, _, rfl, Int.emod_nonneg _ (by omega), .inl (Int.emod_lt_of_pos _ (by omega)), E, p, n, c, bs, _, _, O4, H, hbs, by omega, by omega, by omega, by omega⟩
 refine vm_ rfl rfl rfl ?_
 refine vm_ rfl rfl rfl ?_
 refine oz_ (xnilCheck rfl) rfl rfl ?_
 refine oz_ (xfieldAddr fo93f1 rfl) rfl rfl ?_
 refine oz_ (v := .int .i64 (at_ + 1)) (xload1 Tryz.isAgg3 rfl (O4.cells) rfl) rfl rfl ?_
 refine oz_ (xrem rfl rfl (by omega) (by omega)) rfl rfl ?_
 refine oz_ (xeql rfl rfl _ rfl) rfl rfl ?_
 refine ods (fun c61 => ?_) (fun c61 => ?_)
 rotate_left
 ·
  refine oz_ (xpick_t rfl rfl) rfl rfl ?_
  refine cf_ rfl ?_
  refine sr_ ?_
  refine vm_ rfl rfl rfl ?_
  refine vm_ rfl rfl rfl ?_
  refine oz_ (xrem rfl rfl (by omega) (by omega)) rfl rfl ?_
  refine vn_ rfl rfl rfl ?_
  refine run_ret Tryz.func60 (res1 rfl rfl) ?_
  exact ⟨_, rfl, _, rfl, Int.emod_nonneg _ (by omega), .inl (Int.emod_lt_of_pos _ (by omega)), E, p, n, c, bs, _, _, O4, H, hbs, by omega, by omega, by omega, by omega⟩
 refine oz_ (xpick_t rfl rfl) rfl rfl ?_
 refine ct_ rfl ?_
 refine run_draw (by kernel_rfl) (by kernel_rfl) ?_
 refine qv (fun w' x_ => xmove rfl) rfl rfl rfl ?_
 refine qv (fun w' x_ => xnilCheck rfl) rfl rfl rfl ?_
 refine qv (fun w' x_ => xfieldAddr fo93f0 rfl) rfl rfl rfl ?_
 refine qv (v := .slice p n c) (fun w' x_ => xload1 Tryz.isAgg22 rfl ((O4.cells).ext x_) rfl) rfl rfl rfl ?_
 refine qv (fun w' x_ => xmove rfl) rfl rfl rfl ?_
 refine qv (fun w' x_ => xnilCheck rfl) rfl rfl rfl ?_
 refine qv (fun w' x_ => xfieldAddr fo93f1 rfl) rfl rfl rfl ?_
 refine qv (v := .int .i64 (at_ + 1)) (fun w' x_ => xload1 Tryz.isAgg3 rfl ((O4.cells).ext x_) rfl) rfl rfl rfl ?_
 refine qv (fun w' x_ => xsub rfl rfl (by unfold I64; omega)) rfl rfl rfl ?_
 have h72 := (H.sl).at (i := at_.toNat) (by omega)
 refine qv (fun w' x_ => xindexN (i := at_.toNat) Tryz.underlying22 Tryz.sizeOf5 rfl rfl (by omega) ((H.sl).p (i := at_.toNat) (by omega)) (by have := (H.sl).len; omega)) rfl rfl rfl ?_
 refine qv (v := .int .u8 bs[at_.toNat]) (fun w' x_ => xloadz Tryz.isAgg5 rfl ((h72).ext x_) rfl) rfl rfl rfl ?_
 refine qv (fun w' x_ => xconv Tryz.underlying5 Tryz.underlying2 rfl (by unfold I64; omega)) rfl rfl rfl ?_
 refine qv (fun w' x_ => xassign rfl) rfl rfl rfl ?_
 refine q_nil ?_
 intro w5 e5
 have z5 := e5.size
 have E := E.trans (Mk.ofExt e5)
 replace H := H.ext e5
 replace O4 := O4.ext e5
 refine sr_ ?_
 refine vm_ rfl rfl rfl ?_
 refine vm_ rfl rfl rfl ?_
 refine oz_ (xrem rfl rfl (by omega) (by omega)) rfl rfl ?_
 refine vn_ rfl rfl rfl ?_
 refine run_ret Tryz.func60 (res1 rfl rfl) ?_
 exact ⟨_, rfl, _, rfl, Int.emod_nonneg _ (by omega), .inl (Int.emod_lt_of_pos _ (by omega)), E, p, n, c, bs, _, _, O4, H, hbs, by omega, by omega, by omega, by omega⟩
set_option maxHeartbeats 1000000 in
theorem l01From_ok (p : Option Addr) (n c : Nat) (bs : List Int) (w : World) (H : Sl u8c 1 w p n c bs) (hbs : ∀ x ∈ bs, 0 ≤ x ∧ x ≤ 255) (cb : Nat) (hfar : n = 0 ∨ pb p < cb) (hcb0 : cb ≤ w.heap.size) : Ret Tryz.prog 25 [.slice p n c] w (fun v w' => Ext w w' ∧ ∃ b, v = .pointer (some ⟨b, 0, none⟩) ∧ w.heap.size ≤ b ∧ Src w' b cb) := by
 refine ret_of_run (N := 34) Tryz.func25 rfl rfl rfl ?_
 have hn := H.len
 have hn6 := H.n64
 have E : Ext w w := Ext.refl w
 refine sr_ ?_
 refine vn_ rfl rfl rfl ?_
 refine sr_ ?_
 refine vm_ rfl rfl rfl ?_
 refine oz_ (xbuild (vs := [.slice p n c, .int .i64 61043]) (cells := #[.slice p n c, .int .i64 0, .int .i64 61043]) rfl (by kernel_rfl)) rfl rfl ?_
 refine obox rfl rfl rfl ?_
 intro b1 w1 e1 hb1 hz1 O1
 have E := E.trans e1
 replace O1 : Own w1 b1 [.slice p n c, .int .i64 0, .int .i64 61043] 93 := O1
 refine vn_ rfl rfl rfl ?_
 refine run_seq ?_
 refine sr_ ?_
 refine vn_ rfl rfl rfl ?_
 refine run_block ?_
 refine run_loop (ι := Nat × Int × World) (fun x_ => match x_ with | (k, seed, wr) => (Ext w wr) ∧ (Own wr b1 ([.slice p n c, .int .i64 0, .int .i64 seed]) 93) ∧ (w1.heap.size ≤ wr.heap.size) ∧ (k ≤ n) ∧ (0 ≤ seed) ∧ (seed < 2147483647)) (fun x_ => match x_ with | (k, seed, wr) => [(0, .slice p n c), (3, .pointer (some ⟨b1, 0, none⟩)), (4, .int .i64 (k : Int))]) (fun x_ => match x_ with | (k, seed, wr) => wr) (fun x_ => match x_ with | (k, seed, wr) => n - k) ?_ (0, 61043, w1) (⟨E, O1, Nat.le_refl _, by omega, by omega, by omega⟩) ⟨rfl, rfl, rfl, trivial⟩ rfl
 intro i_ hI_ hback3
 obtain ⟨k, seed, wr⟩ := i_
 obtain ⟨E, O_b1, lz_wr, hk, hs0, hs1⟩ := hI_
 try dsimp only
 have zr := E.size
 have lt_b1 := O_b1.lt
 refine run_seq ?_
 refine sr_ ?_
 refine vm_ rfl rfl rfl ?_
 refine vm_ rfl rfl rfl ?_
 refine oz_ (xlen Tryz.underlying22 rfl) rfl rfl ?_
 refine oz_ (xlss rfl rfl _ rfl) rfl rfl ?_
 refine ods (fun c11 => ?_) (fun c11 => ?_)
 rotate_left
 ·
  refine vm_ rfl rfl rfl ?_
  refine o2_ rfl rfl rfl rfl ?_
  refine oz_ (xpick_f rfl rfl) rfl rfl ?_
  refine cg_ rfl ?_
  refine run_exit rfl ?_
  refine sr_ ?_
  refine vm_ rfl rfl rfl ?_
  refine vn_ rfl rfl rfl ?_
  refine run_ret Tryz.func25 (res1 rfl rfl) ?_
  exact ⟨_, rfl, E, _, rfl, by omega, p, n, c, bs, 0, seed, O_b1, ⟨H.ext E, hfar, by omega⟩, hbs, by omega, by omega, by omega, by omega⟩
 refine vm_ rfl rfl rfl ?_
 refine vm_ rfl rfl rfl ?_
 refine oz_ (xlss rfl rfl _ rfl) rfl rfl ?_
 refine ods (fun c14 => ?_) (fun c14 => ?_)
 rotate_left
 ·
  refine oz_ (xpick_t rfl rfl) rfl rfl ?_
  refine cg_ rfl ?_
  refine run_exit rfl ?_
  refine sr_ ?_
  refine vm_ rfl rfl rfl ?_
  refine vn_ rfl rfl rfl ?_
  refine run_ret Tryz.func25 (res1 rfl rfl) ?_
  exact ⟨_, rfl, E, _, rfl, by omega, p, n, c, bs, 0, seed, O_b1, ⟨H.ext E, hfar, by omega⟩, hbs, by omega, by omega, by omega, by omega⟩
 refine oz_ (xpick_t rfl rfl) rfl rfl ?_
 refine ct_ rfl ?_
 refine run_skip ?_
 refine run_seq ?_
 refine run_block ?_
 refine run_tail 15 (by kernel_rfl) (by kernel_rfl) ?_
 intro w2 e2
 have z2 := e2.size
 have E := E.trans e2
 replace O_b1 := O_b1.ext e2
 refine stv (xmove rfl) rfl rfl rfl ?_
 refine stv (xmove rfl) rfl rfl rfl ?_
 refine stv (xnilCheck rfl) rfl rfl rfl ?_
 refine stv (xfieldAddr fo93f2 rfl) rfl rfl rfl ?_
 refine stv (v := .int .i64 seed) (xload1 Tryz.isAgg2 rfl (O_b1.cells) rfl) rfl rfl rfl ?_
 refine stv (xmul rfl rfl (by unfold I64; omega)) rfl rfl rfl ?_
 refine stv (xmove rfl) rfl rfl rfl ?_
 refine stv (xmove rfl) rfl rfl rfl ?_
 have h26 := (H.ext E).at (i := k) (by omega)
 refine stv (xindexN (i := k) Tryz.underlying22 Tryz.sizeOf5 rfl rfl rfl ((H.ext E).p (i := k) (by omega)) (by have := (H.ext E).len; omega)) rfl rfl rfl ?_
 refine stv (v := .int .u8 bs[k]) (xloadz Tryz.isAgg5 rfl (h26) rfl) rfl rfl rfl ?_
 have hbb := hbs _ (List.getElem_mem (by omega : k < bs.length))
 refine stv (xconv Tryz.underlying5 Tryz.underlying2 rfl (by unfold I64; omega)) rfl rfl rfl ?_
 refine stv (xadd rfl rfl (by unfold I64; omega)) rfl rfl rfl ?_
 refine stv (xrem rfl rfl (by omega) (by omega)) rfl rfl rfl ?_
 refine stv (xnilCheck rfl) rfl rfl rfl ?_
 refine stv (xfieldAddr fo93f2 rfl) rfl rfl rfl ?_
 refine st_store1 Tryz.sizeOf2 rfl rfl O_b1 (by simp) rfl rfl ?_
 intro w3 on3 O3
 have hz3 := on3.size
 have E := on3.ext E (by omega)
 replace O3 : Own w3 b1 [.slice p n c, .int .i64 0, .int .i64 (((seed * 83) + bs[k]) % 2147483647)] 93 := O3
 refine run_inBlock ?_
 refine run_region ?_
 refine vm_ rfl rfl rfl ?_
 refine oz_ (xadd rfl rfl (by unfold I64; omega)) rfl rfl ?_
 refine vn_ rfl rfl rfl ?_
 refine run_sub ?_ (hback3 (k + 1, (seed * 83 + bs[k]) % 2147483647, w3) (⟨E, O3, by omega, by omega, by omega, by omega⟩) (by first | omega | (dsimp only; omega)))
 exact ⟨rfl, rfl, rfl, trivial⟩
set_option maxHeartbeats 1000000 in
theorem l01Pick_ok (b cb : Nat) (p : Option Addr) (n c : Nat) (xs : List Int) (K : Int) (w : World) (S : Src w b cb) (H : Sl i64c 1 w p n c xs) (hK : ∀ x ∈ xs, -K ≤ x ∧ x ≤ K) (h0 : 0 < n) (hp : b < pb p) : Ret Tryz.prog 61 [.pointer (some ⟨b, 0, none⟩), .slice p n c] w (fun v w' => ∃ r : Int, v = .int .i64 r ∧ (-K ≤ r ∧ r ≤ K) ∧ Mk b (b + 1) w w' ∧ Src w' b cb) := by
 refine ret_of_run (N := 12) Tryz.func61 rfl rfl rfl ?_
 have hbl := S.lt
 have hcb := S.cb
 have hn := H.len
 have hn6 := H.n64
 have E : Mk b (b + 1) w w := Mk.refl _ _ _
 refine sr_ ?_
 refine vn_ rfl rfl rfl ?_
 refine sr_ ?_
 refine vm_ rfl rfl rfl ?_
 refine vm_ rfl rfl rfl ?_
 refine vm_ rfl rfl rfl ?_
 refine oz_ (xlen Tryz.underlying24 rfl) rfl rfl ?_
 refine oc (xcall Tryz.call60 rfl) rfl rfl rfl (l01Next_ok b cb ((n : Int)) _ S) ?_
 rintro _ w1 ⟨r9_0, rfl, h9_0, h9_1, m1, S1⟩
 have z1 := m1.size
 have E := E.trans m1
 replace H := H.off m1 (by omega)
 replace S := S1
 have h10 := (H).at (i := r9_0.toNat) (by omega)
 refine oz_ (xindexN (i := r9_0.toNat) Tryz.underlying24 Tryz.sizeOf2 rfl rfl (by omega) ((H).p (i := r9_0.toNat) (by omega)) (by have := (H).len; omega)) rfl rfl ?_
 refine oz_ (v := .int .i64 xs[r9_0.toNat]) (xloadz Tryz.isAgg2 rfl (h10) rfl) rfl rfl ?_
 refine vn_ rfl rfl rfl ?_
 refine run_ret Tryz.func61 (res1 rfl rfl) ?_
 exact ⟨_, rfl, _, rfl, hK _ (List.getElem_mem _), E, S⟩
set_option maxHeartbeats 400000 in
theorem big_ok (p : Option Addr) (n c : Nat) (bs : List Int) (w : World) (H : Sl u8c 1 w p n c bs) : Ret Tryz.prog 4 [.slice p n c] w (Pv w (.bool (decide ((n : Int) > 4096)))) := by
 refine ret_of_run (N := 6) Tryz.func4 rfl rfl rfl ?_
 have E : Ext w w := Ext.refl w
 refine sr_ ?_
 refine vn_ rfl rfl rfl ?_
 refine sr_ ?_
 refine vm_ rfl rfl rfl ?_
 refine oz_ (xlen Tryz.underlying22 rfl) rfl rfl ?_
 refine oz_ (xgtr rfl rfl _ rfl) rfl rfl ?_
 refine vn_ rfl rfl rfl ?_
 refine run_ret Tryz.func4 (res1 rfl rfl) ?_
 exact ⟨_, rfl, rfl, E⟩
end Go.Proofs.YtchblgaklknkcaaGreat
