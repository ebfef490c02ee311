/-
  Panels: the walks. No condition beyond those written in each theorem.
-/
import Derived.Test.YtchblgaklknkcaaGreatNum12
namespace Go.Proofs.YtchblgaklknkcaaGreat
open Go.RowKit
set_option linter.unusedVariables false
set_option linter.unusedSimpArgs false
set_option linter.unusedSectionVars false
set_option maxRecDepth 4000
theorem hasI_step {l : List Int} {k : Nat} {x : Int} (h : k < l.length) : hasI (l.take (k + 1)) x = (hasI (l.take k) x || decide (l[k] = x)) := by
 rw [List.take_succ_eq_append_getElem h, hasI, List.any_append]; simp [hasI]
theorem isPan_as {x : Pan} {l : List Int} (h : l = x.W ++ x.G ++ seatedL x.S) : isPan x = (!(hasI x.S 0 && decide (0 < x.W.length)) && (inR 1 12 x.S.length && (decide (l.length ≤ 60) && dsN l))) := by
 have hp : l.Perm x.all := by rw [h, Pan.all]; exact List.perm_append_comm
 rw [isPan, dsN_perm hp, hp.length_eq]
theorem emp_n {x : Pan} {k : Nat} (hk : k < x.S.length) (hw : x.W.length = 0) : emptyP x k = ⟨x.S.set k 0, x.W, x.G ++ [x.S[k]]⟩ := by
 have e : x.W = [] := List.length_eq_zero_iff.1 hw
 simp [emptyP, e, atI_of hk]
theorem emp_s {x : Pan} {k : Nat} (hk : k < x.S.length) (hw : 0 < x.W.length) : emptyP x k = ⟨(x.S.set k 0).set k x.W[0], x.W.drop 1, x.G ++ [x.S[k]]⟩ := by
 obtain ⟨S, W, G⟩ := x
 cases W with
 | nil => simp at hw
 | cons a r => simp only at hk; simp [emptyP, atI_of hk]
def seatTo (xs : List Int) (s k : Nat) : List Int := xs.take (min k s) ++ List.replicate (s - k) 0
theorem seatTo_set {xs : List Int} {s k : Nat} (h : k < xs.length) (hs : k < s) : (seatTo xs s k).set k xs[k] = seatTo xs s (k + 1) := by
 have e1 : min k s = k := by omega
 have e2 : min (k + 1) s = k + 1 := by omega
 have e3 : s - k = (s - (k + 1)) + 1 := by omega
 have hl : (xs.take k).length = k := by rw [List.length_take]; omega
 rw [seatTo, seatTo, e1, e2, e3, List.replicate_succ, List.set_append_right _ _ (by omega), hl, Nat.sub_self, List.set_cons_zero, List.take_succ_eq_append_getElem h, List.append_assoc]; rfl
theorem seatTo_keep {xs : List Int} {s k : Nat} (hs : s ≤ k) : seatTo xs s (k + 1) = seatTo xs s k := by
 rw [seatTo, seatTo, show min (k + 1) s = min k s by omega, show s - (k + 1) = s - k by omega]
theorem waitTo_f {xs : List Int} {s k : Nat} (hs : k < s) : (xs.take (k + 1)).drop s = (xs.take k).drop s := by
 rw [List.drop_of_length_le (by rw [List.length_take]; omega), List.drop_of_length_le (by rw [List.length_take]; omega)]
theorem waitTo_t {xs : List Int} {s k : Nat} (h : k < xs.length) (hs : s ≤ k) : (xs.take (k + 1)).drop s = (xs.take k).drop s ++ [xs[k]] := by
 rw [List.take_succ_eq_append_getElem h, List.drop_append_of_le_length (by rw [List.length_take]; omega)]
theorem mkPan_as {xs : List Int} {s n : Nat} (hn : n = xs.length) : (⟨seatTo xs s n, (xs.take n).drop s, []⟩ : Pan) = mkPan xs s := by
 subst hn
 have e : xs.take (min xs.length s) = xs.take s := by
   rcases (by omega : s ≤ xs.length ∨ xs.length ≤ s) with h | h
   · rw [Nat.min_eq_right h]
   · rw [Nat.min_eq_left h, List.take_of_length_le h, List.take_of_length_le (Nat.le_refl _)]
 rw [mkPan, seatTo, e, List.take_of_length_le (Nat.le_refl _)]
theorem mkPan_cp {xs : List Int} {s n : Nat} (hn : n = xs.length) : (⟨xs.take s ++ (List.replicate s (0 : Int)).drop n, xs.drop (min n s), []⟩ : Pan) = mkPan xs s := by
 subst hn
 have e : xs.drop (min xs.length s) = xs.drop s := by
   rcases (by omega : s ≤ xs.length ∨ xs.length ≤ s) with h | h
   · rw [Nat.min_eq_right h]
   · rw [Nat.min_eq_left h, List.drop_of_length_le h, List.drop_of_length_le (Nat.le_refl _)]
 rw [mkPan, e, List.drop_replicate]
set_option maxHeartbeats 400000 in
theorem seated_ok (p : Option Addr) (n c : Nat) (xs : List Int) (w : World) (H : Sl i64c 1 w p n c xs) (hn2 : n ≤ 1000000000) : Ret Tryz.prog 46 [.slice p n c] w (fun v w' => Ext w w' ∧ ∃ q m d, v = .slice q m d ∧ Ow i64c 1 2 w' w.heap.size w'.heap.size q m d (seatedL xs)) := by
 refine ret_of_run (N := 21) Tryz.func46 rfl rfl rfl ?_
 have hn := H.len
 have hn6 := H.n64
 have E : Ext w w := Ext.refl w
 refine sr_ ?_
 refine vn_ rfl rfl rfl ?_
 refine sr_ ?_
 refine obuild (cs := []) (sz := 1) Tryz.underlying24 inf2 rfl rfl (by decide) rfl rfl (by simp [Value.cells]) rfl rfl rfl ?_
 intro b1 w1 e1 hb1 hz1 O1
 have E := E.trans e1
 have G1 : Ow i64c 1 2 w1 b1 (b1 + 1) (some ⟨b1, 0, none⟩) 0 0 ([] : List Int) := Own.ow (by simpa [i64c] using O1) rfl (by omega) (Nat.le_refl _) (by omega) (by intro x hx; rfl)
 refine vn_ rfl rfl rfl ?_
 refine run_seq ?_
 refine sr_ ?_
 refine vm_ rfl rfl rfl ?_
 refine oz_ (xlen Tryz.underlying24 rfl) rfl rfl ?_
 refine vm_ rfl rfl rfl ?_
 refine ops_nil ?_
 refine run_block ?_
 refine run_loop (ι := Nat × Option Addr × Nat × Nat × List Int × World) (fun x_ => match x_ with | (k, q_3, m_3, c_3, ys_3, wr) => (Ext w wr) ∧ (Ow i64c 1 2 wr b1 wr.heap.size q_3 m_3 c_3 ys_3) ∧ (b1 ≤ wr.heap.size) ∧ (w1.heap.size ≤ wr.heap.size) ∧ (k ≤ n) ∧ (m_3 ≤ k) ∧ (ys_3 = seatedL (xs.take k))) (fun x_ => match x_ with | (k, q_3, m_3, c_3, ys_3, wr) => [(3, .slice q_3 m_3 c_3), (7, .slice p n c), (8, .int .i64 (n : Int)), (9, .int .i64 (k : Int))]) (fun x_ => match x_ with | (k, q_3, m_3, c_3, ys_3, wr) => wr) (fun x_ => match x_ with | (k, q_3, m_3, c_3, ys_3, wr) => n - k) ?_ (0, (some ⟨b1, 0, none⟩), 0, 0, [], w1) (⟨E, G1.wide (by omega) (by omega), by omega, Nat.le_refl _, by omega, Nat.le_refl _, rfl⟩) ⟨rfl, rfl, rfl, rfl, trivial⟩ rfl
 intro i_ hI_ hback3
 obtain ⟨k, q_3, m_3, c_3, ys_3, wr⟩ := i_
 obtain ⟨E, G_3, lo_3, lz_wr, hk, hm3, hy⟩ := hI_
 try dsimp only
 have zr := E.size
 have lg_3 := G_3.len
 refine sr_ ?_
 refine oz_ (xlss rfl rfl _ rfl) rfl rfl ?_
 refine ods (fun c10 => ?_) (fun c10 => ?_)
 rotate_left
 ·
  refine ops_nil ?_
  refine run_seq ?_
  refine run_cond_f rfl ?_
  refine run_exit rfl ?_
  refine sr_ ?_
  refine vm_ rfl rfl rfl ?_
  refine vn_ rfl rfl rfl ?_
  refine run_ret Tryz.func46 (res1 rfl rfl) ?_
  obtain rfl : k = n := by omega
  exact ⟨_, rfl, E, _, _, _, rfl, by rw [hn, List.take_length] at hy; rw [← hy]; exact G_3.wide (by omega) (by omega)⟩
 refine ops_nil ?_
 refine run_seq ?_
 refine run_cond_t rfl ?_
 refine run_skip ?_
 refine run_seq ?_
 refine run_block ?_
 refine sr_ ?_
 have h11 := (H.ext E).at (i := k) (by omega)
 refine oz_ (xindexN (i := k) Tryz.underlying24 Tryz.sizeOf2 rfl rfl rfl ((H.ext E).p (i := k) (by omega)) (by have := (H.ext E).len; omega)) rfl rfl ?_
 refine oz_ (v := .int .i64 xs[k]) (xloadz Tryz.isAgg2 rfl (h11) rfl) rfl rfl ?_
 refine vn_ rfl rfl rfl ?_
 refine sr_ ?_
 refine vm_ rfl rfl rfl ?_
 refine oz_ (xneq rfl rfl _ rfl) rfl rfl ?_
 refine ods (fun c14 => ?_) (fun c14 => ?_)
 rotate_left
 ·
  refine cf_ rfl ?_
  refine run_inBlock ?_
  refine run_region ?_
  refine oz_ (xadd rfl rfl (by unfold I64; omega)) rfl rfl ?_
  refine vm_ rfl rfl rfl ?_
  refine ops_nil ?_
  refine run_sub ?_ (hback3 (k + 1, q_3, m_3, c_3, ys_3, wr) (⟨E, G_3.wide (by omega) (by omega), by omega, by omega, by omega, by omega, by rw [seatedL_step (by omega), if_neg c14, hy]⟩) (by first | omega | (dsimp only; omega)))
  exact ⟨rfl, rfl, rfl, rfl, trivial⟩
 refine ct_ rfl ?_
 refine run_region ?_
 refine vm_ rfl rfl rfl ?_
 refine vm_ rfl rfl rfl ?_
 refine obuild (cs := [.int .i64 xs[k]]) (sz := 1) Tryz.underlying24 inf2 rfl rfl (by decide) rfl rfl (by simp [Value.cells]) rfl rfl rfl ?_
 intro b2 w2 e2 hb2 hz2 O2
 have E := E.trans e2
 replace G_3 := G_3.ext e2
 refine oapp (bytes := 8) (nm := (m_3 + 1)) G_3 rfl rfl elem2 (Own.sl1 (y := xs[k]) O2) (by intro h; cases h) (by intro y hy; rfl) (by intro y hy u hu; rw [List.mem_singleton] at hy; subst hy; revert u; simp [Value.oneCell', i64c]) (by omega) (by omega) (by omega) (by omega) rfl rfl ?_
 intro p3 c3_ w3 m3 G3
 have hz3 := m3.size
 have E := m3.toExt E (by omega)
 refine vn_ rfl rfl rfl ?_
 refine run_inBlock ?_
 refine run_region ?_
 refine oz_ (xadd rfl rfl (by unfold I64; omega)) rfl rfl ?_
 refine vm_ rfl rfl rfl ?_
 refine ops_nil ?_
 refine run_sub ?_ (hback3 (k + 1, p3, (m_3 + 1), c3_, (ys_3 ++ [xs[k]]), w3) (⟨E, G3.wide (by omega) (by omega), by omega, by omega, by omega, by omega, by rw [seatedL_step (by omega), if_pos c14, hy]⟩) (by first | omega | (dsimp only; omega)))
 exact ⟨rfl, rfl, rfl, rfl, trivial⟩
set_option maxHeartbeats 400000 in
theorem l12Seated_ok (u1 : Option Addr) (n1 v1 : Nat) (u2 : Option Addr) (n2 v2 : Nat) (u3 : Option Addr) (n3 v3 : Nat) (x : Pan) (w : World) (H1 : Sl i64c 1 w u1 n1 v1 x.S) (H2 : Sl i64c 1 w u2 n2 v2 x.W) (H3 : Sl i64c 1 w u3 n3 v3 x.G) (hb : n1 ≤ 1000 ∧ n2 ≤ 1000 ∧ n3 ≤ 1000) : Ret Tryz.prog 106 [.agg #[.slice u1 n1 v1, .slice u2 n2 v2, .slice u3 n3 v3]] w (fun v w' => Ext w w' ∧ ∃ q m d, v = .slice q m d ∧ Ow i64c 1 2 w' w.heap.size w'.heap.size q m d (seatedL x.S)) := by
 refine ret_of_run (N := 28) Tryz.func106 rfl rfl rfl ?_
 have hn1 := H1.len
 have hn2 := H2.len
 have hn3 := H3.len
 have E : Ext w w := Ext.refl w
 refine sr_ ?_
 refine obox rfl rfl rfl ?_
 intro b1 w1 e1 hb1 hz1 O1
 have E := E.trans e1
 replace O1 : Own w1 b1 [.slice u1 n1 v1, .slice u2 n2 v2, .slice u3 n3 v3] 79 := O1
 refine vn_ rfl rfl rfl ?_
 refine sr_ ?_
 refine obuild (cs := []) (sz := 1) Tryz.underlying24 inf2 rfl rfl (by decide) rfl rfl (by simp [Value.cells]) rfl rfl rfl ?_
 intro b2 w2 e2 hb2 hz2 O2
 have E := E.trans e2
 replace O1 := O1.ext e2
 have G2 : Ow i64c 1 2 w2 b2 (b2 + 1) (some ⟨b2, 0, none⟩) 0 0 ([] : List Int) := Own.ow (by simpa [i64c] using O2) rfl (by omega) (Nat.le_refl _) (by omega) (by intro x hx; rfl)
 refine vn_ rfl rfl rfl ?_
 refine run_seq ?_
 refine sr_ ?_
 refine vn_ rfl rfl rfl ?_
 refine run_block ?_
 refine run_loop (ι := Nat × Option Addr × Nat × Nat × List Int × World) (fun x_ => match x_ with | (k, q_3, m_3, c_3, ys_3, wr) => (Ext w wr) ∧ (Own wr b1 ([.slice u1 n1 v1, .slice u2 n2 v2, .slice u3 n3 v3]) 79) ∧ (Ow i64c 1 2 wr b2 wr.heap.size q_3 m_3 c_3 ys_3) ∧ (b2 ≤ wr.heap.size) ∧ (w2.heap.size ≤ wr.heap.size) ∧ (k ≤ n1) ∧ (m_3 ≤ k) ∧ (ys_3 = seatedL (x.S.take k))) (fun x_ => match x_ with | (k, q_3, m_3, c_3, ys_3, wr) => [(1, .pointer (some ⟨b1, 0, none⟩)), (3, .slice q_3 m_3 c_3), (4, .int .i64 (k : Int))]) (fun x_ => match x_ with | (k, q_3, m_3, c_3, ys_3, wr) => wr) (fun x_ => match x_ with | (k, q_3, m_3, c_3, ys_3, wr) => n1 - k) ?_ (0, (some ⟨b2, 0, none⟩), 0, 0, [], w2) (⟨E, O1, G2.wide (by omega) (by omega), by omega, Nat.le_refl _, by omega, Nat.le_refl _, rfl⟩) ⟨rfl, rfl, rfl, trivial⟩ rfl
 intro i_ hI_ hback3
 obtain ⟨k, q_3, m_3, c_3, ys_3, wr⟩ := i_
 obtain ⟨E, O_b1, G_3, lo_3, lz_wr, hk, hm3, hy⟩ := hI_
 try dsimp only
 have zr := E.size
 have lt_b1 := O_b1.lt
 have lg_3 := G_3.len
 refine run_seq ?_
 refine sr_ ?_
 refine vm_ rfl rfl rfl ?_
 refine oz_ (xfieldAddr fo79f0 rfl) rfl rfl ?_
 refine oz_ (v := .slice u1 n1 v1) (xload1 Tryz.isAgg24 rfl (O_b1.cells) rfl) rfl rfl ?_
 refine oz_ (xlen Tryz.underlying24 rfl) rfl rfl ?_
 refine oz_ (xlss rfl rfl _ rfl) rfl rfl ?_
 refine ods (fun c10 => ?_) (fun c10 => ?_)
 rotate_left
 ·
  refine cg_ rfl ?_
  refine run_exit rfl ?_
  refine sr_ ?_
  refine vm_ rfl rfl rfl ?_
  refine vn_ rfl rfl rfl ?_
  refine run_ret Tryz.func106 (res1 rfl rfl) ?_
  have hkn : k = n1 := by omega
  exact ⟨_, rfl, E, _, _, _, rfl, by rw [hkn, hn1, List.take_length] at hy; rw [← hy]; exact G_3.wide (by omega) (by omega)⟩
 refine ct_ rfl ?_
 refine run_skip ?_
 refine run_seq ?_
 refine run_block ?_
 refine sr_ ?_
 refine oz_ (xfieldAddr fo79f0 rfl) rfl rfl ?_
 refine oz_ (v := .slice u1 n1 v1) (xload1 Tryz.isAgg24 rfl (O_b1.cells) rfl) rfl rfl ?_
 refine vm_ rfl rfl rfl ?_
 have h16 := (H1.ext E).at (i := k) (by omega)
 refine oz_ (xindexN (i := k) Tryz.underlying24 Tryz.sizeOf2 rfl rfl rfl ((H1.ext E).p (i := k) (by omega)) (by have := (H1.ext E).len; omega)) rfl rfl ?_
 refine oz_ (v := .int .i64 x.S[k]) (xloadz Tryz.isAgg2 rfl (h16) rfl) rfl rfl ?_
 refine oz_ (xneq rfl rfl _ rfl) rfl rfl ?_
 refine ods (fun c18 => ?_) (fun c18 => ?_)
 rotate_left
 ·
  refine cf_ rfl ?_
  refine run_inBlock ?_
  refine run_region ?_
  refine vm_ rfl rfl rfl ?_
  refine oz_ (xadd rfl rfl (by unfold I64; omega)) rfl rfl ?_
  refine vn_ rfl rfl rfl ?_
  refine run_sub ?_ (hback3 (k + 1, q_3, m_3, c_3, ys_3, wr) (⟨E, O_b1, G_3.wide (by omega) (by omega), by omega, by omega, by omega, by omega, by rw [seatedL_step (by omega), if_neg c18, hy]⟩) (by first | omega | (dsimp only; omega)))
  exact ⟨rfl, rfl, rfl, trivial⟩
 refine ct_ rfl ?_
 refine run_region ?_
 refine vm_ rfl rfl rfl ?_
 refine oz_ (xfieldAddr fo79f0 rfl) rfl rfl ?_
 refine oz_ (v := .slice u1 n1 v1) (xload1 Tryz.isAgg24 rfl (O_b1.cells) rfl) rfl rfl ?_
 refine vm_ rfl rfl rfl ?_
 have h23 := (H1.ext E).at (i := k) (by omega)
 refine oz_ (xindexN (i := k) Tryz.underlying24 Tryz.sizeOf2 rfl rfl rfl ((H1.ext E).p (i := k) (by omega)) (by have := (H1.ext E).len; omega)) rfl rfl ?_
 refine oz_ (v := .int .i64 x.S[k]) (xloadz Tryz.isAgg2 rfl (h23) rfl) rfl rfl ?_
 refine obuild (cs := [.int .i64 x.S[k]]) (sz := 1) Tryz.underlying24 inf2 rfl rfl (by decide) rfl rfl (by simp [Value.cells]) rfl rfl rfl ?_
 intro b3 w3 e3 hb3 hz3 O3
 have E := E.trans e3
 replace G_3 := G_3.ext e3
 replace O_b1 := O_b1.ext e3
 refine oapp (bytes := 8) (nm := (m_3 + 1)) G_3 rfl rfl elem2 (Own.sl1 (y := x.S[k]) O3) (by intro h; cases h) (by intro y hy; rfl) (by intro y hy u hu; rw [List.mem_singleton] at hy; subst hy; revert u; simp [Value.oneCell', i64c]) (by omega) (by omega) (by omega) (by omega) rfl rfl ?_
 intro p4 c4_ w4 m4 G4
 have hz4 := m4.size
 have E := m4.toExt E (by omega)
 try replace O_b1 := m4.own O_b1 (by omega)
 refine vn_ rfl rfl rfl ?_
 refine run_inBlock ?_
 refine run_region ?_
 refine vm_ rfl rfl rfl ?_
 refine oz_ (xadd rfl rfl (by unfold I64; omega)) rfl rfl ?_
 refine vn_ rfl rfl rfl ?_
 refine run_sub ?_ (hback3 (k + 1, p4, (m_3 + 1), c4_, (ys_3 ++ [x.S[k]]), w4) (⟨E, O_b1, G4.wide (by omega) (by omega), by omega, by omega, by omega, by omega, by rw [seatedL_step (by omega), if_pos c18, hy]⟩) (by first | omega | (dsimp only; omega)))
 exact ⟨rfl, rfl, rfl, trivial⟩
set_option maxHeartbeats 400000 in
theorem joined_ok (p : Option Addr) (n c : Nat) (vs : List (List Int)) (w : World) (H0 : SnInt64SS w p n c vs) (hv : ∀ v ∈ vs, v.length ≤ 1000000) (hn2 : n ≤ 10) : Ret Tryz.prog 45 [.slice p n c] w (fun v w' => Ext w w' ∧ ∃ q m d, v = .slice q m d ∧ Ow i64c 1 2 w' w.heap.size w'.heap.size q m d (vs.flatten)) := by
 refine ret_of_run (N := 18) Tryz.func45 rfl rfl rfl ?_
 obtain ⟨hd, H⟩ := H0
 have hn := H.len
 have hn6 := H.n64
 have E : Ext w w := Ext.refl w
 refine sr_ ?_
 refine vn_ rfl rfl rfl ?_
 refine sr_ ?_
 refine obuild (cs := []) (sz := 1) Tryz.underlying24 inf2 rfl rfl (by decide) rfl rfl (by simp [Value.cells]) rfl rfl rfl ?_
 intro b1 w1 e1 hb1 hz1 O1
 have E := E.trans e1
 have G1 : Ow i64c 1 2 w1 b1 (b1 + 1) (some ⟨b1, 0, none⟩) 0 0 ([] : List Int) := Own.ow (by simpa [i64c] using O1) rfl (by omega) (Nat.le_refl _) (by omega) (by intro x hx; rfl)
 refine vn_ rfl rfl rfl ?_
 refine run_seq ?_
 refine sr_ ?_
 refine vm_ rfl rfl rfl ?_
 refine oz_ (xlen Tryz.underlying36 rfl) rfl rfl ?_
 refine vm_ rfl rfl rfl ?_
 refine ops_nil ?_
 refine run_block ?_
 refine run_loop (ι := Nat × Option Addr × Nat × Nat × List Int × World) (fun x_ => match x_ with | (k, q_3, m_3, c_3, ys_3, wr) => (Ext w wr) ∧ (Ow i64c 1 2 wr b1 wr.heap.size q_3 m_3 c_3 ys_3) ∧ (b1 ≤ wr.heap.size) ∧ (w1.heap.size ≤ wr.heap.size) ∧ (k ≤ n) ∧ (m_3 ≤ k * 1000000) ∧ (ys_3 = (vs.take k).flatten)) (fun x_ => match x_ with | (k, q_3, m_3, c_3, ys_3, wr) => [(3, .slice q_3 m_3 c_3), (7, .slice p n c), (8, .int .i64 (n : Int)), (9, .int .i64 (k : Int))]) (fun x_ => match x_ with | (k, q_3, m_3, c_3, ys_3, wr) => wr) (fun x_ => match x_ with | (k, q_3, m_3, c_3, ys_3, wr) => n - k) ?_ (0, (some ⟨b1, 0, none⟩), 0, 0, [], w1) (⟨E, G1.wide (by omega) (by omega), by omega, Nat.le_refl _, by omega, Nat.le_refl _, rfl⟩) ⟨rfl, rfl, rfl, rfl, trivial⟩ rfl
 intro i_ hI_ hback3
 obtain ⟨k, q_3, m_3, c_3, ys_3, wr⟩ := i_
 obtain ⟨E, G_3, lo_3, lz_wr, hk, hm3, hy⟩ := hI_
 try dsimp only
 have zr := E.size
 have lg_3 := G_3.len
 refine sr_ ?_
 refine oz_ (xlss rfl rfl _ rfl) rfl rfl ?_
 refine ods (fun c10 => ?_) (fun c10 => ?_)
 rotate_left
 ·
  refine ops_nil ?_
  refine run_seq ?_
  refine run_cond_f rfl ?_
  refine run_exit rfl ?_
  refine sr_ ?_
  refine vm_ rfl rfl rfl ?_
  refine vn_ rfl rfl rfl ?_
  refine run_ret Tryz.func45 (res1 rfl rfl) ?_
  obtain rfl : k = n := by omega
  exact ⟨_, rfl, E, _, _, _, rfl, by rw [hn, List.take_length] at hy; rw [← hy]; exact G_3.wide (by omega) (by omega)⟩
 have hvk := hv vs[k] (List.getElem_mem (by omega))
 have hik := (H.inner (i := k) (by omega)).len
 simp only [innInt64SS] at hik
 refine ops_nil ?_
 refine run_seq ?_
 refine run_cond_t rfl ?_
 refine run_skip ?_
 refine run_seq ?_
 refine run_block ?_
 refine sr_ ?_
 have h11 := (H.ext E).at (i := k) (by omega)
 refine oz_ (xindexN (i := k) Tryz.underlying36 Tryz.sizeOf24 rfl rfl rfl ((H.ext E).p (i := k) (by omega)) (by have := (H.ext E).len; omega)) rfl rfl ?_
 refine oz_ (v := .slice (hd k).p (hd k).n (hd k).c) (xloadz Tryz.isAgg24 rfl (h11) rfl) rfl rfl ?_
 refine vn_ rfl rfl rfl ?_
 refine run_region ?_
 refine vm_ rfl rfl rfl ?_
 refine vm_ rfl rfl rfl ?_
 refine oapp (bytes := 8) (nm := (m_3 + (hd k).n)) G_3 rfl rfl elem2 ((show Sl i64c 1 _ _ _ _ vs[k] from (H.inner (i := k) (by omega)).ext E)) ((show Sl i64c 1 _ _ _ _ vs[k] from (H.inner (i := k) (by omega)).ext E)).nil (by intro y hy; rfl) (by intro y hy u hu; simp only [i64c, List.mem_singleton] at hu; subst hu; rfl) (by omega) (by omega) (by omega) (by omega) rfl rfl ?_
 intro p2 c2_ w2 m2 G2
 have hz2 := m2.size
 have E := m2.toExt E (by omega)
 refine vn_ rfl rfl rfl ?_
 refine run_inBlock ?_
 refine run_region ?_
 refine oz_ (xadd rfl rfl (by unfold I64; omega)) rfl rfl ?_
 refine vm_ rfl rfl rfl ?_
 refine ops_nil ?_
 refine run_sub ?_ (hback3 (k + 1, p2, (m_3 + (hd k).n), c2_, (ys_3 ++ vs[k]), w2) (⟨E, G2.wide (by omega) (by omega), by omega, by omega, by omega, by omega, by rw [List.take_succ_eq_append_getElem (by omega), List.flatten_append, hy]; simp⟩) (by first | omega | (dsimp only; omega)))
 exact ⟨rfl, rfl, rfl, rfl, trivial⟩
set_option maxHeartbeats 400000 in
theorem distinct_ok (p : Option Addr) (n c : Nat) (xs : List Int) (w : World) (H : Sl i64c 1 w p n c xs) : Ret Tryz.prog 44 [.slice p n c] w (Pv w (.bool (dsN xs))) := by
 refine ret_of_run (N := 23) Tryz.func44 rfl rfl rfl ?_
 have hn := H.len
 have hn6 := H.n64
 have E : Ext w w := Ext.refl w
 refine sr_ ?_
 refine vn_ rfl rfl rfl ?_
 refine run_seq ?_
 refine sr_ ?_
 refine vm_ rfl rfl rfl ?_
 refine oz_ (xlen Tryz.underlying24 rfl) rfl rfl ?_
 refine vm_ rfl rfl rfl ?_
 refine ops_nil ?_
 refine run_block ?_
 refine run_loop (ι := Nat × World) (fun x_ => match x_ with | (k, wr) => (Ext w wr) ∧ (w.heap.size ≤ wr.heap.size) ∧ (k ≤ n) ∧ (allB k (allI (dsP xs) xs) = true)) (fun x_ => match x_ with | (k, wr) => [(0, .slice p n c), (5, .slice p n c), (6, .int .i64 (n : Int)), (7, .int .i64 (k : Int))]) (fun x_ => match x_ with | (k, wr) => wr) (fun x_ => match x_ with | (k, wr) => n - k) ?_ (0, w) (⟨E, Nat.le_refl _, by omega, allB_zero⟩) ⟨rfl, rfl, rfl, rfl, trivial⟩ rfl
 intro i_ hI_ hback2
 obtain ⟨k, wr⟩ := i_
 obtain ⟨E, lz_wr, hk, ha⟩ := hI_
 try dsimp only
 have zr := E.size
 refine sr_ ?_
 refine oz_ (xlss rfl rfl _ rfl) rfl rfl ?_
 refine ods (fun c8 => ?_) (fun c8 => ?_)
 rotate_left
 ·
  refine ops_nil ?_
  refine run_seq ?_
  refine run_cond_f rfl ?_
  refine run_exit rfl ?_
  refine sr_ ?_
  refine vn_ rfl rfl rfl ?_
  refine run_ret Tryz.func44 (res1 rfl rfl) ?_
  obtain rfl : k = n := by omega
  exact ⟨_, rfl, by rw [dsN, ← hn, ha], E⟩
 refine ops_nil ?_
 refine run_seq ?_
 refine run_cond_t rfl ?_
 refine run_skip ?_
 refine run_seq ?_
 refine run_block ?_
 refine sr_ ?_
 refine vm_ rfl rfl rfl ?_
 have h10 := (H.ext E).at (i := k) (by omega)
 refine oz_ (xindexN (i := k) Tryz.underlying24 Tryz.sizeOf2 rfl rfl rfl ((H.ext E).p (i := k) (by omega)) (by have := (H.ext E).len; omega)) rfl rfl ?_
 refine oz_ (v := .int .i64 xs[k]) (xloadz Tryz.isAgg2 rfl (h10) rfl) rfl rfl ?_
 refine va_ rfl rfl rfl ?_
 refine vn_ rfl rfl rfl ?_
 refine sr_ ?_
 refine vm_ rfl rfl rfl ?_
 refine oc (xcall Tryz.call86 rfl) rfl rfl rfl (isNumber_ok (xs[k]) _) ?_
 rintro _ w_ ⟨rfl, hw_⟩
 replace hw_ := hw_.symm
 subst hw_
 refine obs (fun c13 => ?_) (fun c13 => ?_)
 rotate_left
 ·
  refine oz_ (xnot rfl) rfl rfl ?_
  refine vm_ rfl rfl rfl ?_
  refine o2_ rfl rfl rfl rfl ?_
  refine o2_ rfl rfl rfl rfl ?_
  refine og rfl rfl rfl ?_
  refine oz_ (xpick_t rfl rfl) rfl rfl ?_
  refine ct_ rfl ?_
  refine sr_ ?_
  refine vn_ rfl rfl rfl ?_
  refine run_ret Tryz.func44 (res1 rfl rfl) ?_
  exact ⟨_, rfl, by rw [dsN_f (k := k) (by omega) (by rw [dsP, c13]; rfl)], E⟩
 refine oz_ (xnot rfl) rfl rfl ?_
 refine vm_ rfl rfl rfl ?_
 refine vm_ rfl rfl rfl ?_
 refine vm_ rfl rfl rfl ?_
 refine oz_ (xslice_h (k := k) Tryz.underlying24 Tryz.sizeOf2 rfl rfl rfl (by have := (H.ext E).cap; omega)) rfl rfl ?_
 refine vm_ rfl rfl rfl ?_
 refine oc (xcall Tryz.call41 rfl) rfl rfl rfl (hasI_ok _ _ _ _ (xs[k]) _ ((H.ext E).take (k := k) (by omega))) ?_
 rintro _ w1 ⟨rfl, e1⟩
 have z1 := e1.size
 have E := E.trans e1
 refine obs (fun c20 => ?_) (fun c20 => ?_)
 ·
  refine oz_ (xpick_f rfl rfl) rfl rfl ?_
  refine ct_ rfl ?_
  refine sr_ ?_
  refine vn_ rfl rfl rfl ?_
  refine run_ret Tryz.func44 (res1 rfl rfl) ?_
  exact ⟨_, rfl, by rw [dsN_f (k := k) (by omega) (by rw [dsP, c13, c20]; rfl)], E⟩
 refine oz_ (xpick_f rfl rfl) rfl rfl ?_
 refine cf_ rfl ?_
 refine run_inBlock ?_
 refine run_region ?_
 refine oz_ (xadd rfl rfl (by unfold I64; omega)) rfl rfl ?_
 refine vm_ rfl rfl rfl ?_
 refine ops_nil ?_
 refine run_sub ?_ (hback2 (k + 1, w1) (⟨E, by omega, by omega, allB_succ ha (by rw [allI_of (by omega), dsP, c13, c20]; rfl)⟩) (by first | omega | (dsimp only; omega)))
 exact ⟨rfl, rfl, rfl, rfl, trivial⟩
set_option maxHeartbeats 1000000 in
theorem IsPanel_ok (u1 : Option Addr) (n1 v1 : Nat) (u2 : Option Addr) (n2 v2 : Nat) (u3 : Option Addr) (n3 v3 : Nat) (x : Pan) (w : World) (H1 : Sl i64c 1 w u1 n1 v1 x.S) (H2 : Sl i64c 1 w u2 n2 v2 x.W) (H3 : Sl i64c 1 w u3 n3 v3 x.G) (hb : n1 ≤ 1000 ∧ n2 ≤ 1000 ∧ n3 ≤ 1000) : Ret Tryz.prog 96 [.agg #[.slice u1 n1 v1, .slice u2 n2 v2, .slice u3 n3 v3]] w (Pv w (.bool (isPan x))) := by
 refine ret_of_run (N := 35) Tryz.func96 rfl rfl rfl ?_
 have hn1 := H1.len
 have hn2 := H2.len
 have hn3 := H3.len
 have hsl := seatedL_le x.S
 have hfl : [seatedL x.S, x.W, x.G].flatten = x.all := by simp [Pan.all]
 have E : Ext w w := Ext.refl w
 refine sr_ ?_
 refine obox rfl rfl rfl ?_
 intro b1 w1 e1 hb1 hz1 O1
 have E := E.trans e1
 replace O1 : Own w1 b1 [.slice u1 n1 v1, .slice u2 n2 v2, .slice u3 n3 v3] 79 := O1
 refine vn_ rfl rfl rfl ?_
 refine run_seq ?_
 have RE := E
 have RO1 := O1
 refine run_heldC (Ext.refl _) (by kernel_rfl) ?_
 intro wh1 F
 have zh1 := F.size
 have E := E.trans F
 replace O1 := O1.ext F
 refine h_take 0 rfl (by kernel_rfl) (by kernel_rfl) (by kernel_rfl) (fun w' x_ => xfieldAddr fo79f0 rfl) rfl rfl rfl F ?_
 refine h_take 1 (v := .slice u1 n1 v1) rfl (by kernel_rfl) (by kernel_rfl) (by kernel_rfl) (fun w' x_ => xload1 Tryz.isAgg24 rfl ((RO1.cells).ext x_) rfl) rfl rfl rfl F ?_
 refine h_take 3 rfl (by kernel_rfl) (by kernel_rfl) (by kernel_rfl) (fun w' x_ => xfieldAddr fo79f1 rfl) rfl rfl rfl F ?_
 refine h_take 4 (v := .slice u2 n2 v2) rfl (by kernel_rfl) (by kernel_rfl) (by kernel_rfl) (fun w' x_ => xload1 Tryz.isAgg24 rfl ((RO1.cells).ext x_) rfl) rfl rfl rfl F ?_
 refine h_take 5 rfl (by kernel_rfl) (by kernel_rfl) (by kernel_rfl) (fun w' x_ => xfieldAddr fo79f2 rfl) rfl rfl rfl F ?_
 refine h_take 6 (v := .slice u3 n3 v3) rfl (by kernel_rfl) (by kernel_rfl) (by kernel_rfl) (fun w' x_ => xload1 Tryz.isAgg24 rfl ((RO1.cells).ext x_) rfl) rfl rfl rfl F ?_
 refine h_ready (rs := [2]) (by kernel_rfl) (by decide) ⟨?_, trivial⟩
 refine hs_call rfl (xcall Tryz.call46 rfl) rfl rfl rfl (seated_ok _ _ _ _ _ (H1.ext E) (by omega)) ?_
 rintro _ w2 ⟨e2, q6, m6, d6, rfl, Q6⟩
 have z2 := e2.size
 have E := E.trans e2
 replace O1 := O1.ext e2
 have F := F.trans e2
 have lG6 := Q6.len
 refine ⟨F, ?_⟩
 refine h_ready (rs := [7]) (by kernel_rfl) (by decide) ⟨?_, trivial⟩
 refine hs_build (len := 3) (vs := [.slice q6 m6 d6, .slice u2 n2 v2, .slice u3 n3 v3]) (cs := [.slice q6 m6 d6, .slice u2 n2 v2, .slice u3 n3 v3]) (sz := 1) Tryz.underlying36 inf24 rfl rfl (by decide) (by rfl) (by rfl) (by simp [Value.cells]) rfl F rfl rfl rfl ?_
 intro b3 w3 e3 hb3 hz3 O3
 have E := E.trans e3
 replace Q6 := Q6.ext e3
 replace O1 := O1.ext e3
 have F := F.trans e3
 refine h_ready (rs := [8]) (by kernel_rfl) (by decide) ⟨?_, trivial⟩
 refine hs_call rfl (xcall Tryz.call45 rfl) rfl rfl rfl (joined_ok _ _ _ [seatedL x.S, x.W, x.G] _ (sn3 O3 (Q6.sl) (H2.ext E) (H3.ext E)) (by intro v hv_; simp only [List.mem_cons, List.not_mem_nil, or_false] at hv_; rcases hv_ with rfl | rfl | rfl <;> omega) (by omega)) ?_
 rintro _ w4 ⟨e4, q12, m12, d12, rfl, Q12⟩
 have z4 := e4.size
 have E := E.trans e4
 replace O1 := O1.ext e4
 have F := F.trans e4
 rw [hfl] at Q12
 have lG12 := Q12.len
 refine ⟨F, ?_⟩
 refine h_take 9 rfl (by kernel_rfl) (by kernel_rfl) (by kernel_rfl) (fun w' x_ => xassign rfl) rfl rfl rfl F ?_
 refine h_doneC (by kernel_rfl) ?_
 refine run_seq ?_
 refine sr_ ?_
 refine oz_ (xfieldAddr fo79f0 rfl) rfl rfl ?_
 refine oz_ (v := .slice u1 n1 v1) (xload1 Tryz.isAgg24 rfl (O1.cells) rfl) rfl rfl ?_
 refine oc (xcall Tryz.call41 rfl) rfl rfl rfl (hasI_ok _ _ _ _ (0) _ (H1.ext E)) ?_
 rintro _ w5 ⟨rfl, e5⟩
 have z5 := e5.size
 have E := E.trans e5
 replace Q12 := Q12.ext e5
 replace O1 := O1.ext e5
 refine obs (fun c15 => ?_) (fun c15 => ?_)
 rotate_left
 ·
  refine vm_ rfl rfl rfl ?_
  refine o2_ rfl rfl rfl rfl ?_
  refine o2_ rfl rfl rfl rfl ?_
  refine oz_ (xpick_f rfl rfl) rfl rfl ?_
  refine cf_ rfl ?_
  refine sr_ ?_
  refine oz_ (xfieldAddr fo79f0 rfl) rfl rfl ?_
  refine oz_ (v := .slice u1 n1 v1) (xload1 Tryz.isAgg24 rfl (O1.cells) rfl) rfl rfl ?_
  refine oz_ (xlen Tryz.underlying24 rfl) rfl rfl ?_
  refine oc (xcall Tryz.call42 rfl) rfl rfl rfl (isSeats_ok ((n1 : Int)) _) ?_
  rintro _ w_ ⟨rfl, hw_⟩
  replace hw_ := hw_.symm
  subst hw_
  refine obs (fun c25 => ?_) (fun c25 => ?_)
  rotate_left
  ·
   refine vm_ rfl rfl rfl ?_
   refine o2_ rfl rfl rfl rfl ?_
   refine og rfl rfl rfl ?_
   refine oz_ (xpick_f rfl rfl) rfl rfl ?_
   refine vm_ rfl rfl rfl ?_
   refine o2_ rfl rfl rfl rfl ?_
   refine oz_ (xpick_f rfl rfl) rfl rfl ?_
   refine vn_ rfl rfl rfl ?_
   refine run_ret Tryz.func96 (res1 rfl rfl) ?_
   have hA : (!(hasI x.S 0 && decide (0 < x.W.length))) = true := by rw [c15]; rfl
   exact ⟨_, rfl, by rw [isPan, hA, Bool.true_and, ← hn1, c25]; rfl, E⟩
  refine vm_ rfl rfl rfl ?_
  refine vm_ rfl rfl rfl ?_
  refine oz_ (xlen Tryz.underlying24 rfl) rfl rfl ?_
  refine oc (xcall Tryz.call43 rfl) rfl rfl rfl (few_ok ((m12 : Int)) (60) _) ?_
  rintro _ w_ ⟨rfl, hw_⟩
  replace hw_ := hw_.symm
  subst hw_
  refine obs (fun c29 => ?_) (fun c29 => ?_)
  ·
   refine oz_ (xpick_t rfl rfl) rfl rfl ?_
   refine vm_ rfl rfl rfl ?_
   refine vm_ rfl rfl rfl ?_
   refine oc (xcall Tryz.call44 rfl) rfl rfl rfl (distinct_ok _ _ _ _ _ (Q12.sl)) ?_
   rintro _ w6 ⟨rfl, e6⟩
   have z6 := e6.size
   have E := E.trans e6
   refine oz_ (xpick_t rfl rfl) rfl rfl ?_
   refine vn_ rfl rfl rfl ?_
   refine run_ret Tryz.func96 (res1 rfl rfl) ?_
   have hA : (!(hasI x.S 0 && decide (0 < x.W.length))) = true := by rw [c15]; rfl
   have hL : decide (x.all.length ≤ 60) = true := decide_eq_true (by simp only [decide_eq_true_eq] at c29; omega)
   exact ⟨_, rfl, by rw [isPan, hA, Bool.true_and, ← hn1, c25, hL]; rfl, E⟩
  refine oz_ (xpick_t rfl rfl) rfl rfl ?_
  refine vm_ rfl rfl rfl ?_
  refine o2_ rfl rfl rfl rfl ?_
  refine oz_ (xpick_f rfl rfl) rfl rfl ?_
  refine vn_ rfl rfl rfl ?_
  refine run_ret Tryz.func96 (res1 rfl rfl) ?_
  have hA : (!(hasI x.S 0 && decide (0 < x.W.length))) = true := by rw [c15]; rfl
  have hL : decide (x.all.length ≤ 60) = false := decide_eq_false (by simp only [decide_eq_false_iff_not] at c29; omega)
  exact ⟨_, rfl, by rw [isPan, hA, Bool.true_and, ← hn1, c25, hL]; rfl, E⟩
 refine vm_ rfl rfl rfl ?_
 refine oz_ (xfieldAddr fo79f1 rfl) rfl rfl ?_
 refine oz_ (v := .slice u2 n2 v2) (xload1 Tryz.isAgg24 rfl (O1.cells) rfl) rfl rfl ?_
 refine oz_ (xlen Tryz.underlying24 rfl) rfl rfl ?_
 refine oz_ (xgtr rfl rfl _ rfl) rfl rfl ?_
 refine ods (fun c20 => ?_) (fun c20 => ?_)
 ·
  refine oz_ (xpick_t rfl rfl) rfl rfl ?_
  refine ct_ rfl ?_
  refine sr_ ?_
  refine vn_ rfl rfl rfl ?_
  refine run_ret Tryz.func96 (res1 rfl rfl) ?_
  exact ⟨_, rfl, by rw [isPan, c15, decide_eq_true (by omega)]; rfl, E⟩
 refine oz_ (xpick_t rfl rfl) rfl rfl ?_
 refine cf_ rfl ?_
 refine sr_ ?_
 refine oz_ (xfieldAddr fo79f0 rfl) rfl rfl ?_
 refine oz_ (v := .slice u1 n1 v1) (xload1 Tryz.isAgg24 rfl (O1.cells) rfl) rfl rfl ?_
 refine oz_ (xlen Tryz.underlying24 rfl) rfl rfl ?_
 refine oc (xcall Tryz.call42 rfl) rfl rfl rfl (isSeats_ok ((n1 : Int)) _) ?_
 rintro _ w_ ⟨rfl, hw_⟩
 replace hw_ := hw_.symm
 subst hw_
 refine obs (fun c25 => ?_) (fun c25 => ?_)
 rotate_left
 ·
  refine vm_ rfl rfl rfl ?_
  refine o2_ rfl rfl rfl rfl ?_
  refine og rfl rfl rfl ?_
  refine oz_ (xpick_f rfl rfl) rfl rfl ?_
  refine vm_ rfl rfl rfl ?_
  refine o2_ rfl rfl rfl rfl ?_
  refine oz_ (xpick_f rfl rfl) rfl rfl ?_
  refine vn_ rfl rfl rfl ?_
  refine run_ret Tryz.func96 (res1 rfl rfl) ?_
  have hA : (!(hasI x.S 0 && decide (0 < x.W.length))) = true := by rw [c15, decide_eq_false (by omega)]; rfl
  exact ⟨_, rfl, by rw [isPan, hA, Bool.true_and, ← hn1, c25]; rfl, E⟩
 refine vm_ rfl rfl rfl ?_
 refine vm_ rfl rfl rfl ?_
 refine oz_ (xlen Tryz.underlying24 rfl) rfl rfl ?_
 refine oc (xcall Tryz.call43 rfl) rfl rfl rfl (few_ok ((m12 : Int)) (60) _) ?_
 rintro _ w_ ⟨rfl, hw_⟩
 replace hw_ := hw_.symm
 subst hw_
 refine obs (fun c29 => ?_) (fun c29 => ?_)
 ·
  refine oz_ (xpick_t rfl rfl) rfl rfl ?_
  refine vm_ rfl rfl rfl ?_
  refine vm_ rfl rfl rfl ?_
  refine oc (xcall Tryz.call44 rfl) rfl rfl rfl (distinct_ok _ _ _ _ _ (Q12.sl)) ?_
  rintro _ w6 ⟨rfl, e6⟩
  have z6 := e6.size
  have E := E.trans e6
  refine oz_ (xpick_t rfl rfl) rfl rfl ?_
  refine vn_ rfl rfl rfl ?_
  refine run_ret Tryz.func96 (res1 rfl rfl) ?_
  have hA : (!(hasI x.S 0 && decide (0 < x.W.length))) = true := by rw [c15, decide_eq_false (by omega)]; rfl
  have hL : decide (x.all.length ≤ 60) = true := decide_eq_true (by simp only [decide_eq_true_eq] at c29; omega)
  exact ⟨_, rfl, by rw [isPan, hA, Bool.true_and, ← hn1, c25, hL]; rfl, E⟩
 refine oz_ (xpick_t rfl rfl) rfl rfl ?_
 refine vm_ rfl rfl rfl ?_
 refine o2_ rfl rfl rfl rfl ?_
 refine oz_ (xpick_f rfl rfl) rfl rfl ?_
 refine vn_ rfl rfl rfl ?_
 refine run_ret Tryz.func96 (res1 rfl rfl) ?_
 have hA : (!(hasI x.S 0 && decide (0 < x.W.length))) = true := by rw [c15, decide_eq_false (by omega)]; rfl
 have hL : decide (x.all.length ≤ 60) = false := decide_eq_false (by simp only [decide_eq_false_iff_not] at c29; omega)
 exact ⟨_, rfl, by rw [isPan, hA, Bool.true_and, ← hn1, c25, hL]; rfl, E⟩
set_option maxHeartbeats 2000000 in
theorem sIsPanel_ok (u1 : Option Addr) (n1 v1 : Nat) (u2 : Option Addr) (n2 v2 : Nat) (u3 : Option Addr) (n3 v3 : Nat) (x : Pan) (w : World) (H1 : Sl i64c 1 w u1 n1 v1 x.S) (H2 : Sl i64c 1 w u2 n2 v2 x.W) (H3 : Sl i64c 1 w u3 n3 v3 x.G) (hb : n1 ≤ 1000 ∧ n2 ≤ 1000 ∧ n3 ≤ 1000) : Ret Tryz.prog 105 [.agg #[.slice u1 n1 v1, .slice u2 n2 v2, .slice u3 n3 v3]] w (Pv w (.bool (isPan x))) := by
 refine ret_of_run (N := 85) Tryz.func105 rfl rfl rfl ?_
 have hn1 := H1.len
 have hn2 := H2.len
 have hn3 := H3.len
 have E : Ext w w := Ext.refl w
 refine sr_ ?_
 refine obox rfl rfl rfl ?_
 intro b1 w1 e1 hb1 hz1 O1
 have E := E.trans e1
 replace O1 : Own w1 b1 [.slice u1 n1 v1, .slice u2 n2 v2, .slice u3 n3 v3] 79 := O1
 refine vn_ rfl rfl rfl ?_
 refine run_seq ?_
 have RE := E
 have RO1 := O1
 refine run_heldC (Ext.refl _) (by kernel_rfl) ?_
 intro wh1 F
 have zh1 := F.size
 have E := E.trans F
 replace O1 := O1.ext F
 refine h_take 1 rfl (by kernel_rfl) (by kernel_rfl) (by kernel_rfl) (fun w' x_ => xfieldAddr fo79f1 rfl) rfl rfl rfl F ?_
 refine h_take 2 (v := .slice u2 n2 v2) rfl (by kernel_rfl) (by kernel_rfl) (by kernel_rfl) (fun w' x_ => xload1 Tryz.isAgg24 rfl ((RO1.cells).ext x_) rfl) rfl rfl rfl F ?_
 refine h_take 4 rfl (by kernel_rfl) (by kernel_rfl) (by kernel_rfl) (fun w' x_ => xfieldAddr fo79f2 rfl) rfl rfl rfl F ?_
 refine h_take 5 (v := .slice u3 n3 v3) rfl (by kernel_rfl) (by kernel_rfl) (by kernel_rfl) (fun w' x_ => xload1 Tryz.isAgg24 rfl ((RO1.cells).ext x_) rfl) rfl rfl rfl F ?_
 refine h_ready (rs := [0]) (by kernel_rfl) (by decide) ⟨?_, trivial⟩
 refine hs_build (len := 0) (vs := []) (cs := []) (sz := 1) Tryz.underlying24 inf2 rfl rfl (by decide) (by rfl) (by rfl) (by simp [Value.cells]) rfl F rfl rfl rfl ?_
 intro b2 w2 e2 hb2 hz2 O2
 have E := E.trans e2
 replace O1 := O1.ext e2
 have G2 : Ow i64c 1 2 w2 b2 (b2 + 1) (some ⟨b2, 0, none⟩) 0 0 ([] : List Int) := Own.ow (by simpa [i64c] using O2) rfl (by omega) (Nat.le_refl _) (by omega) (by intro x hx; rfl)
 have F := F.trans e2
 refine h_ready (rs := [3]) (by kernel_rfl) (by decide) ⟨?_, trivial⟩
 refine hs_app (bytes := 8) (nm := n2) G2 (by rfl) (by rfl) elem2 (H2.ext E) (H2.ext E).nil (by intro y hy; rfl) (by intro y hy u hu; simp only [i64c, List.mem_singleton] at hu; subst hu; rfl) (by omega) (by omega) (by omega) (by omega) F (by omega) rfl rfl rfl ?_
 intro p3 c3_ w3 m3 G3
 have hz3 := m3.size
 have E := m3.toExt E (by omega)
 have F := m3.toExt F (by omega)
 try replace O1 := m3.own O1 (by omega)
 refine h_ready (rs := [6]) (by kernel_rfl) (by decide) ⟨?_, trivial⟩
 refine hs_app (bytes := 8) (nm := (n2 + n3)) G3 (by rfl) (by rfl) elem2 (H3.ext E) (H3.ext E).nil (by intro y hy; rfl) (by intro y hy u hu; simp only [i64c, List.mem_singleton] at hu; subst hu; rfl) (by omega) (by omega) (by omega) (by omega) F (by omega) rfl rfl rfl ?_
 intro p4 c4_ w4 m4 G4
 have hz4 := m4.size
 have E := m4.toExt E (by omega)
 have F := m4.toExt F (by omega)
 try replace O1 := m4.own O1 (by omega)
 refine h_take 7 rfl (by kernel_rfl) (by kernel_rfl) (by kernel_rfl) (fun w' x_ => xassign rfl) rfl rfl rfl F ?_
 refine h_doneC (by kernel_rfl) ?_
 refine sr_ ?_
 refine vn_ rfl rfl rfl ?_
 refine run_seq ?_
 refine sr_ ?_
 refine vn_ rfl rfl rfl ?_
 refine run_block ?_
 refine run_loop (ι := Nat × Bool × Option Addr × Nat × Nat × List Int × World) (fun x_ => match x_ with | (k, em, q_3, m_3, c_3, ys_3, wr) => (Ext w wr) ∧ (Own wr b1 ([.slice u1 n1 v1, .slice u2 n2 v2, .slice u3 n3 v3]) 79) ∧ (Ow i64c 1 2 wr b2 wr.heap.size q_3 m_3 c_3 ys_3) ∧ (b2 ≤ wr.heap.size) ∧ (w4.heap.size ≤ wr.heap.size) ∧ (k ≤ n1) ∧ (m_3 ≤ n2 + n3 + k) ∧ (em = hasI (x.S.take k) 0) ∧ (ys_3 = x.W ++ x.G ++ seatedL (x.S.take k))) (fun x_ => match x_ with | (k, em, q_3, m_3, c_3, ys_3, wr) => [(1, .pointer (some ⟨b1, 0, none⟩)), (3, .slice q_3 m_3 c_3), (4, .bool em), (5, .int .i64 (k : Int))]) (fun x_ => match x_ with | (k, em, q_3, m_3, c_3, ys_3, wr) => wr) (fun x_ => match x_ with | (k, em, q_3, m_3, c_3, ys_3, wr) => n1 - k) ?_ (0, false, p4, (n2 + n3), c4_, ([] ++ x.W ++ x.G), w4) (⟨E, O1, G4.wide (by omega) (by omega), by omega, Nat.le_refl _, by omega, by omega, rfl, by simp [seatedL]⟩) ⟨rfl, rfl, rfl, rfl, trivial⟩ rfl
 intro i_ hI_ hback4
 obtain ⟨k, em, q_3, m_3, c_3, ys_3, wr⟩ := i_
 obtain ⟨E, O_b1, G_3, lo_3, lz_wr, hk, hm3, hem, hy⟩ := hI_
 try dsimp only
 have zr := E.size
 have lt_b1 := O_b1.lt
 have lg_3 := G_3.len
 refine run_seq ?_
 refine sr_ ?_
 refine vm_ rfl rfl rfl ?_
 refine oz_ (xfieldAddr fo79f0 rfl) rfl rfl ?_
 refine oz_ (v := .slice u1 n1 v1) (xload1 Tryz.isAgg24 rfl (O_b1.cells) rfl) rfl rfl ?_
 refine oz_ (xlen Tryz.underlying24 rfl) rfl rfl ?_
 refine oz_ (xlss rfl rfl _ rfl) rfl rfl ?_
 refine ods (fun c18 => ?_) (fun c18 => ?_)
 ·
  refine ct_ rfl ?_
  refine run_skip ?_
  refine run_seq ?_
  refine run_block ?_
  refine sr_ ?_
  refine vm_ rfl rfl rfl ?_
  refine obs (fun c21 => ?_) (fun c21 => ?_)
  ·
   refine vm_ rfl rfl rfl ?_
   refine o2_ rfl rfl rfl rfl ?_
   refine o2_ rfl rfl rfl rfl ?_
   refine o2_ rfl rfl rfl rfl ?_
   refine oz_ (xpick_t rfl rfl) rfl rfl ?_
   refine vn_ rfl rfl rfl ?_
   refine sr_ ?_
   refine oz_ (xfieldAddr fo79f0 rfl) rfl rfl ?_
   refine oz_ (v := .slice u1 n1 v1) (xload1 Tryz.isAgg24 rfl (O_b1.cells) rfl) rfl rfl ?_
   refine vm_ rfl rfl rfl ?_
   have h33 := (H1.ext E).at (i := k) (by omega)
   refine oz_ (xindexN (i := k) Tryz.underlying24 Tryz.sizeOf2 rfl rfl rfl ((H1.ext E).p (i := k) (by omega)) (by have := (H1.ext E).len; omega)) rfl rfl ?_
   refine oz_ (v := .int .i64 x.S[k]) (xloadz Tryz.isAgg2 rfl (h33) rfl) rfl rfl ?_
   refine oz_ (xneq rfl rfl _ rfl) rfl rfl ?_
   refine ods (fun c35 => ?_) (fun c35 => ?_)
   rotate_left
   ·
    refine cf_ rfl ?_
    refine run_inBlock ?_
    refine run_region ?_
    refine vm_ rfl rfl rfl ?_
    refine oz_ (xadd rfl rfl (by unfold I64; omega)) rfl rfl ?_
    refine vn_ rfl rfl rfl ?_
    refine run_sub ?_ (hback4 (k + 1, true, q_3, m_3, c_3, ys_3, wr) (⟨E, O_b1, G_3.wide (by omega) (by omega), by omega, by omega, by omega, by omega, by rw [hasI_step (by omega), ← hem, c21]; rfl, by rw [seatedL_step (by omega), if_neg c35, hy]⟩) (by first | omega | (dsimp only; omega)))
    exact ⟨rfl, rfl, rfl, rfl, trivial⟩
   refine ct_ rfl ?_
   refine run_region ?_
   refine vm_ rfl rfl rfl ?_
   refine oz_ (xfieldAddr fo79f0 rfl) rfl rfl ?_
   refine oz_ (v := .slice u1 n1 v1) (xload1 Tryz.isAgg24 rfl (O_b1.cells) rfl) rfl rfl ?_
   refine vm_ rfl rfl rfl ?_
   have h40 := (H1.ext E).at (i := k) (by omega)
   refine oz_ (xindexN (i := k) Tryz.underlying24 Tryz.sizeOf2 rfl rfl rfl ((H1.ext E).p (i := k) (by omega)) (by have := (H1.ext E).len; omega)) rfl rfl ?_
   refine oz_ (v := .int .i64 x.S[k]) (xloadz Tryz.isAgg2 rfl (h40) rfl) rfl rfl ?_
   refine obuild (cs := [.int .i64 x.S[k]]) (sz := 1) Tryz.underlying24 inf2 rfl rfl (by decide) rfl rfl (by simp [Value.cells]) rfl rfl rfl ?_
   intro b5 w5 e5 hb5 hz5 O5
   have E := E.trans e5
   replace G_3 := G_3.ext e5
   replace O_b1 := O_b1.ext e5
   refine oapp (bytes := 8) (nm := (m_3 + 1)) G_3 rfl rfl elem2 (Own.sl1 (y := x.S[k]) O5) (by intro h; cases h) (by intro y hy; rfl) (by intro y hy u hu; rw [List.mem_singleton] at hy; subst hy; revert u; simp [Value.oneCell', i64c]) (by omega) (by omega) (by omega) (by omega) rfl rfl ?_
   intro p6 c6_ w6 m6 G6
   have hz6 := m6.size
   have E := m6.toExt E (by omega)
   try replace O_b1 := m6.own O_b1 (by omega)
   refine vn_ rfl rfl rfl ?_
   refine run_inBlock ?_
   refine run_region ?_
   refine vm_ rfl rfl rfl ?_
   refine oz_ (xadd rfl rfl (by unfold I64; omega)) rfl rfl ?_
   refine vn_ rfl rfl rfl ?_
   refine run_sub ?_ (hback4 (k + 1, true, p6, (m_3 + 1), c6_, (ys_3 ++ [x.S[k]]), w6) (⟨E, O_b1, G6.wide (by omega) (by omega), by omega, by omega, by omega, by omega, by rw [hasI_step (by omega), ← hem, c21]; rfl, by rw [seatedL_step (by omega), if_pos c35, hy]; simp⟩) (by first | omega | (dsimp only; omega)))
   exact ⟨rfl, rfl, rfl, rfl, trivial⟩
  refine vm_ rfl rfl rfl ?_
  refine oz_ (xfieldAddr fo79f0 rfl) rfl rfl ?_
  refine oz_ (v := .slice u1 n1 v1) (xload1 Tryz.isAgg24 rfl (O_b1.cells) rfl) rfl rfl ?_
  refine vm_ rfl rfl rfl ?_
  have h26 := (H1.ext E).at (i := k) (by omega)
  refine oz_ (xindexN (i := k) Tryz.underlying24 Tryz.sizeOf2 rfl rfl rfl ((H1.ext E).p (i := k) (by omega)) (by have := (H1.ext E).len; omega)) rfl rfl ?_
  refine oz_ (v := .int .i64 x.S[k]) (xloadz Tryz.isAgg2 rfl (h26) rfl) rfl rfl ?_
  refine oz_ (xeql rfl rfl _ rfl) rfl rfl ?_
  refine ods (fun c28 => ?_) (fun c28 => ?_)
  ·
   refine oz_ (xpick_f rfl rfl) rfl rfl ?_
   refine vn_ rfl rfl rfl ?_
   refine sr_ ?_
   refine oz_ (xfieldAddr fo79f0 rfl) rfl rfl ?_
   refine oz_ (v := .slice u1 n1 v1) (xload1 Tryz.isAgg24 rfl (O_b1.cells) rfl) rfl rfl ?_
   refine vm_ rfl rfl rfl ?_
   have h33 := (H1.ext E).at (i := k) (by omega)
   refine oz_ (xindexN (i := k) Tryz.underlying24 Tryz.sizeOf2 rfl rfl rfl ((H1.ext E).p (i := k) (by omega)) (by have := (H1.ext E).len; omega)) rfl rfl ?_
   refine oz_ (v := .int .i64 x.S[k]) (xloadz Tryz.isAgg2 rfl (h33) rfl) rfl rfl ?_
   refine oz_ (xneq rfl rfl _ rfl) rfl rfl ?_
   refine ods (fun c35 => ?_) (fun c35 => ?_)
   rotate_left
   ·
    refine cf_ rfl ?_
    refine run_inBlock ?_
    refine run_region ?_
    refine vm_ rfl rfl rfl ?_
    refine oz_ (xadd rfl rfl (by unfold I64; omega)) rfl rfl ?_
    refine vn_ rfl rfl rfl ?_
    refine run_sub ?_ (hback4 (k + 1, true, q_3, m_3, c_3, ys_3, wr) (⟨E, O_b1, G_3.wide (by omega) (by omega), by omega, by omega, by omega, by omega, by rw [hasI_step (by omega), ← hem, c21, decide_eq_true c28]; rfl, by rw [seatedL_step (by omega), if_neg c35, hy]⟩) (by first | omega | (dsimp only; omega)))
    exact ⟨rfl, rfl, rfl, rfl, trivial⟩
   refine ct_ rfl ?_
   refine run_region ?_
   refine vm_ rfl rfl rfl ?_
   refine oz_ (xfieldAddr fo79f0 rfl) rfl rfl ?_
   refine oz_ (v := .slice u1 n1 v1) (xload1 Tryz.isAgg24 rfl (O_b1.cells) rfl) rfl rfl ?_
   refine vm_ rfl rfl rfl ?_
   have h40 := (H1.ext E).at (i := k) (by omega)
   refine oz_ (xindexN (i := k) Tryz.underlying24 Tryz.sizeOf2 rfl rfl rfl ((H1.ext E).p (i := k) (by omega)) (by have := (H1.ext E).len; omega)) rfl rfl ?_
   refine oz_ (v := .int .i64 x.S[k]) (xloadz Tryz.isAgg2 rfl (h40) rfl) rfl rfl ?_
   refine obuild (cs := [.int .i64 x.S[k]]) (sz := 1) Tryz.underlying24 inf2 rfl rfl (by decide) rfl rfl (by simp [Value.cells]) rfl rfl rfl ?_
   intro b5 w5 e5 hb5 hz5 O5
   have E := E.trans e5
   replace G_3 := G_3.ext e5
   replace O_b1 := O_b1.ext e5
   refine oapp (bytes := 8) (nm := (m_3 + 1)) G_3 rfl rfl elem2 (Own.sl1 (y := x.S[k]) O5) (by intro h; cases h) (by intro y hy; rfl) (by intro y hy u hu; rw [List.mem_singleton] at hy; subst hy; revert u; simp [Value.oneCell', i64c]) (by omega) (by omega) (by omega) (by omega) rfl rfl ?_
   intro p6 c6_ w6 m6 G6
   have hz6 := m6.size
   have E := m6.toExt E (by omega)
   try replace O_b1 := m6.own O_b1 (by omega)
   refine vn_ rfl rfl rfl ?_
   refine run_inBlock ?_
   refine run_region ?_
   refine vm_ rfl rfl rfl ?_
   refine oz_ (xadd rfl rfl (by unfold I64; omega)) rfl rfl ?_
   refine vn_ rfl rfl rfl ?_
   refine run_sub ?_ (hback4 (k + 1, true, p6, (m_3 + 1), c6_, (ys_3 ++ [x.S[k]]), w6) (⟨E, O_b1, G6.wide (by omega) (by omega), by omega, by omega, by omega, by omega, by rw [hasI_step (by omega), ← hem, c21, decide_eq_true c28]; rfl, by rw [seatedL_step (by omega), if_pos c35, hy]; simp⟩) (by first | omega | (dsimp only; omega)))
   exact ⟨rfl, rfl, rfl, rfl, trivial⟩
  refine oz_ (xpick_f rfl rfl) rfl rfl ?_
  refine vn_ rfl rfl rfl ?_
  refine sr_ ?_
  refine oz_ (xfieldAddr fo79f0 rfl) rfl rfl ?_
  refine oz_ (v := .slice u1 n1 v1) (xload1 Tryz.isAgg24 rfl (O_b1.cells) rfl) rfl rfl ?_
  refine vm_ rfl rfl rfl ?_
  have h33 := (H1.ext E).at (i := k) (by omega)
  refine oz_ (xindexN (i := k) Tryz.underlying24 Tryz.sizeOf2 rfl rfl rfl ((H1.ext E).p (i := k) (by omega)) (by have := (H1.ext E).len; omega)) rfl rfl ?_
  refine oz_ (v := .int .i64 x.S[k]) (xloadz Tryz.isAgg2 rfl (h33) rfl) rfl rfl ?_
  refine oz_ (xneq rfl rfl _ rfl) rfl rfl ?_
  refine ods (fun c35 => ?_) (fun c35 => ?_)
  rotate_left
  ·
   refine cf_ rfl ?_
   refine run_inBlock ?_
   refine run_region ?_
   refine vm_ rfl rfl rfl ?_
   refine oz_ (xadd rfl rfl (by unfold I64; omega)) rfl rfl ?_
   refine vn_ rfl rfl rfl ?_
   refine run_sub ?_ (hback4 (k + 1, false, q_3, m_3, c_3, ys_3, wr) (⟨E, O_b1, G_3.wide (by omega) (by omega), by omega, by omega, by omega, by omega, by rw [hasI_step (by omega), ← hem, c21, decide_eq_false c28]; rfl, by rw [seatedL_step (by omega), if_neg c35, hy]⟩) (by first | omega | (dsimp only; omega)))
   exact ⟨rfl, rfl, rfl, rfl, trivial⟩
  refine ct_ rfl ?_
  refine run_region ?_
  refine vm_ rfl rfl rfl ?_
  refine oz_ (xfieldAddr fo79f0 rfl) rfl rfl ?_
  refine oz_ (v := .slice u1 n1 v1) (xload1 Tryz.isAgg24 rfl (O_b1.cells) rfl) rfl rfl ?_
  refine vm_ rfl rfl rfl ?_
  have h40 := (H1.ext E).at (i := k) (by omega)
  refine oz_ (xindexN (i := k) Tryz.underlying24 Tryz.sizeOf2 rfl rfl rfl ((H1.ext E).p (i := k) (by omega)) (by have := (H1.ext E).len; omega)) rfl rfl ?_
  refine oz_ (v := .int .i64 x.S[k]) (xloadz Tryz.isAgg2 rfl (h40) rfl) rfl rfl ?_
  refine obuild (cs := [.int .i64 x.S[k]]) (sz := 1) Tryz.underlying24 inf2 rfl rfl (by decide) rfl rfl (by simp [Value.cells]) rfl rfl rfl ?_
  intro b5 w5 e5 hb5 hz5 O5
  have E := E.trans e5
  replace G_3 := G_3.ext e5
  replace O_b1 := O_b1.ext e5
  refine oapp (bytes := 8) (nm := (m_3 + 1)) G_3 rfl rfl elem2 (Own.sl1 (y := x.S[k]) O5) (by intro h; cases h) (by intro y hy; rfl) (by intro y hy u hu; rw [List.mem_singleton] at hy; subst hy; revert u; simp [Value.oneCell', i64c]) (by omega) (by omega) (by omega) (by omega) rfl rfl ?_
  intro p6 c6_ w6 m6 G6
  have hz6 := m6.size
  have E := m6.toExt E (by omega)
  try replace O_b1 := m6.own O_b1 (by omega)
  refine vn_ rfl rfl rfl ?_
  refine run_inBlock ?_
  refine run_region ?_
  refine vm_ rfl rfl rfl ?_
  refine oz_ (xadd rfl rfl (by unfold I64; omega)) rfl rfl ?_
  refine vn_ rfl rfl rfl ?_
  refine run_sub ?_ (hback4 (k + 1, false, p6, (m_3 + 1), c6_, (ys_3 ++ [x.S[k]]), w6) (⟨E, O_b1, G6.wide (by omega) (by omega), by omega, by omega, by omega, by omega, by rw [hasI_step (by omega), ← hem, c21, decide_eq_false c28]; rfl, by rw [seatedL_step (by omega), if_pos c35, hy]; simp⟩) (by first | omega | (dsimp only; omega)))
  exact ⟨rfl, rfl, rfl, rfl, trivial⟩
 have hkn : k = n1 := by omega
 have hem2 : em = hasI x.S 0 := by rw [hem, hkn, hn1, List.take_length]
 have hall : ys_3 = x.W ++ x.G ++ seatedL x.S := by rw [hy, hkn, hn1, List.take_length]
 refine cg_ rfl ?_
 refine run_exit rfl ?_
 refine run_seq ?_
 refine sr_ ?_
 refine vn_ rfl rfl rfl ?_
 refine run_block ?_
 refine run_loop (ι := Nat × World) (fun x_ => match x_ with | (i, wr2) => (Ext w wr2) ∧ (Own wr2 b1 ([.slice u1 n1 v1, .slice u2 n2 v2, .slice u3 n3 v3]) 79) ∧ (Ow i64c 1 2 wr2 b2 wr.heap.size q_3 m_3 c_3 ys_3) ∧ (wr.heap.size ≤ wr2.heap.size) ∧ (i ≤ m_3) ∧ (allB i (allI (dsP ys_3) ys_3) = true)) (fun x_ => match x_ with | (i, wr2) => [(1, .pointer (some ⟨b1, 0, none⟩)), (3, .slice q_3 m_3 c_3), (4, .bool em), (6, .int .i64 (i : Int))]) (fun x_ => match x_ with | (i, wr2) => wr2) (fun x_ => match x_ with | (i, wr2) => m_3 - i) ?_ (0, wr) (⟨E, O_b1, G_3, Nat.le_refl _, by omega, allB_zero⟩) ⟨rfl, rfl, rfl, rfl, trivial⟩ rfl
 intro i_ hI_ hback10
 obtain ⟨i, wr2⟩ := i_
 obtain ⟨E, O_b1, G_3, lz_wr2, hi, ha⟩ := hI_
 try dsimp only
 have zr := E.size
 have lt_b1 := O_b1.lt
 refine run_seq ?_
 refine sr_ ?_
 refine vm_ rfl rfl rfl ?_
 refine vm_ rfl rfl rfl ?_
 refine oz_ (xlen Tryz.underlying24 rfl) rfl rfl ?_
 refine oz_ (xlss rfl rfl _ rfl) rfl rfl ?_
 refine ods (fun c47 => ?_) (fun c47 => ?_)
 ·
  refine ct_ rfl ?_
  refine run_skip ?_
  refine run_seq ?_
  refine run_block ?_
  refine run_seq ?_
  refine run_draw (by kernel_rfl) (by kernel_rfl) ?_
  refine qv (fun w' x_ => xmove rfl) rfl rfl rfl ?_
  refine qv (fun w' x_ => xmove rfl) rfl rfl rfl ?_
  have h52 := (G_3.sl).at (i := i) (by omega)
  refine qv (fun w' x_ => xindexN (i := i) Tryz.underlying24 Tryz.sizeOf2 rfl rfl rfl ((G_3.sl).p (i := i) (by omega)) (by have := (G_3.sl).len; omega)) rfl rfl rfl ?_
  refine qv (v := .int .i64 ys_3[i]) (fun w' x_ => xloadz Tryz.isAgg2 rfl ((h52).ext x_) rfl) rfl rfl rfl ?_
  have t54 := fun (w' : World) (x_ : Ext wr2 w') => Ret.toq (w := w') (l01In_ok (ys_3[i]) (1) (1000000) _)
  refine qc (fun w' => xcall Tryz.call68 rfl) rfl rfl rfl t54 ?_
  clear t54
  refine qbs (fun c54 => ?_) (fun c54 => ?_)
  rotate_left
  ·
   refine qv (fun w' x_ => xnot rfl) rfl rfl rfl ?_
   refine qv (fun w' x_ => xmove rfl) rfl rfl rfl ?_
   refine qg rfl rfl rfl ?_
   refine qg rfl rfl rfl ?_
   refine qg rfl rfl rfl ?_
   refine qg rfl rfl rfl ?_
   refine qg rfl rfl rfl ?_
   refine qg rfl rfl rfl ?_
   refine qg rfl rfl rfl ?_
   refine qg rfl rfl rfl ?_
   refine qv (fun w' x_ => xpick_t rfl rfl) rfl rfl rfl ?_
   refine q_nil ?_
   intro w5 e5
   have z5 := e5.size
   have E := E.trans e5
   refine run_cond_t rfl ?_
   refine sr_ ?_
   refine vn_ rfl rfl rfl ?_
   refine run_ret Tryz.func105 (res1 rfl rfl) ?_
   exact ⟨_, rfl, by rw [isPan_as hall, dsN_f (k := i) (by omega) (by rw [dsP, c54]; rfl)]; simp, E⟩
  refine qv (fun w' x_ => xnot rfl) rfl rfl rfl ?_
  refine qv (fun w' x_ => xmove rfl) rfl rfl rfl ?_
  refine qv (fun w' x_ => xmove rfl) rfl rfl rfl ?_
  refine qv (fun w' x_ => xmove rfl) rfl rfl rfl ?_
  refine qv (fun w' x_ => xslice_h (k := i) Tryz.underlying24 Tryz.sizeOf2 rfl rfl rfl (by have := (G_3.sl).cap; omega)) rfl rfl rfl ?_
  refine qv (fun w' x_ => xmove rfl) rfl rfl rfl ?_
  refine qv (fun w' x_ => xmove rfl) rfl rfl rfl ?_
  have h62 := (G_3.sl).at (i := i) (by omega)
  refine qv (fun w' x_ => xindexN (i := i) Tryz.underlying24 Tryz.sizeOf2 rfl rfl rfl ((G_3.sl).p (i := i) (by omega)) (by have := (G_3.sl).len; omega)) rfl rfl rfl ?_
  refine qv (v := .int .i64 ys_3[i]) (fun w' x_ => xloadz Tryz.isAgg2 rfl ((h62).ext x_) rfl) rfl rfl rfl ?_
  have t64 := fun (w' : World) (x_ : Ext wr2 w') => Ret.q (w := w') (l01Has_ok _ _ _ _ (ys_3[i]) _ (((G_3.sl).take (k := i) (by omega)).ext x_))
  refine qc (fun w' => xcall Tryz.call126 rfl) rfl rfl rfl t64 ?_
  clear t64
  refine qbs (fun c64 => ?_) (fun c64 => ?_)
  ·
   refine qv (fun w' x_ => xpick_f rfl rfl) rfl rfl rfl ?_
   refine q_nil ?_
   intro w5 e5
   have z5 := e5.size
   have E := E.trans e5
   refine run_cond_t rfl ?_
   refine sr_ ?_
   refine vn_ rfl rfl rfl ?_
   refine run_ret Tryz.func105 (res1 rfl rfl) ?_
   exact ⟨_, rfl, by rw [isPan_as hall, dsN_f (k := i) (by omega) (by rw [dsP, c54, c64]; rfl)]; simp, E⟩
  refine qv (fun w' x_ => xpick_f rfl rfl) rfl rfl rfl ?_
  refine q_nil ?_
  intro w5 e5
  have z5 := e5.size
  have E := E.trans e5
  replace G_3 := G_3.ext e5
  replace O_b1 := O_b1.ext e5
  refine run_cond_f rfl ?_
  refine run_skip ?_
  refine run_inBlock ?_
  refine run_region ?_
  refine vm_ rfl rfl rfl ?_
  refine oz_ (xadd rfl rfl (by unfold I64; omega)) rfl rfl ?_
  refine vn_ rfl rfl rfl ?_
  refine run_sub ?_ (hback10 (i + 1, w5) (⟨E, O_b1, G_3, by omega, by omega, allB_succ ha (by rw [allI_of (by omega), dsP, c54, c64]; rfl)⟩) (by first | omega | (dsimp only; omega)))
  exact ⟨rfl, rfl, rfl, rfl, trivial⟩
 refine cg_ rfl ?_
 refine run_exit rfl ?_
 refine sr_ ?_
 refine oz_ (xfieldAddr fo79f0 rfl) rfl rfl ?_
 refine oz_ (v := .slice u1 n1 v1) (xload1 Tryz.isAgg24 rfl (O_b1.cells) rfl) rfl rfl ?_
 refine oz_ (xlen Tryz.underlying24 rfl) rfl rfl ?_
 refine oc (xcall Tryz.call68 rfl) rfl rfl rfl (l01In_ok ((n1 : Int)) (1) (12) _) ?_
 rintro _ w_ ⟨rfl, hw_⟩
 replace hw_ := hw_.symm
 subst hw_
 refine obs (fun c69 => ?_) (fun c69 => ?_)
 rotate_left
 ·
  refine vm_ rfl rfl rfl ?_
  refine o2_ rfl rfl rfl rfl ?_
  refine og rfl rfl rfl ?_
  refine oz_ (xpick_f rfl rfl) rfl rfl ?_
  refine vm_ rfl rfl rfl ?_
  refine o2_ rfl rfl rfl rfl ?_
  refine o2_ rfl rfl rfl rfl ?_
  refine o2_ rfl rfl rfl rfl ?_
  refine o2_ rfl rfl rfl rfl ?_
  refine oz_ (xpick_f rfl rfl) rfl rfl ?_
  refine vn_ rfl rfl rfl ?_
  refine run_ret Tryz.func105 (res1 rfl rfl) ?_
  have hD : dsN ys_3 = true := by rw [dsN, ← lg_3, ← show i = m_3 by omega, ha]
  exact ⟨_, rfl, by rw [isPan_as hall, ← hn1, c69]; simp, E⟩
 refine vm_ rfl rfl rfl ?_
 refine vm_ rfl rfl rfl ?_
 refine oz_ (xlen Tryz.underlying24 rfl) rfl rfl ?_
 refine oz_ (xleq rfl rfl _ rfl) rfl rfl ?_
 refine ods (fun c73 => ?_) (fun c73 => ?_)
 rotate_left
 ·
  refine oz_ (xpick_t rfl rfl) rfl rfl ?_
  refine vm_ rfl rfl rfl ?_
  refine o2_ rfl rfl rfl rfl ?_
  refine o2_ rfl rfl rfl rfl ?_
  refine o2_ rfl rfl rfl rfl ?_
  refine o2_ rfl rfl rfl rfl ?_
  refine oz_ (xpick_f rfl rfl) rfl rfl ?_
  refine vn_ rfl rfl rfl ?_
  refine run_ret Tryz.func105 (res1 rfl rfl) ?_
  have hD : dsN ys_3 = true := by rw [dsN, ← lg_3, ← show i = m_3 by omega, ha]
  exact ⟨_, rfl, by rw [isPan_as hall, decide_eq_false (by omega : ¬ ys_3.length ≤ 60)]; simp, E⟩
 refine oz_ (xpick_t rfl rfl) rfl rfl ?_
 refine vm_ rfl rfl rfl ?_
 refine vm_ rfl rfl rfl ?_
 refine obs (fun c76 => ?_) (fun c76 => ?_)
 ·
  refine vm_ rfl rfl rfl ?_
  refine oz_ (xfieldAddr fo79f1 rfl) rfl rfl ?_
  refine oz_ (v := .slice u2 n2 v2) (xload1 Tryz.isAgg24 rfl (O_b1.cells) rfl) rfl rfl ?_
  refine oz_ (xlen Tryz.underlying24 rfl) rfl rfl ?_
  refine oz_ (xgtr rfl rfl _ rfl) rfl rfl ?_
  refine oz_ (xpick_t rfl rfl) rfl rfl ?_
  refine oz_ (xnot rfl) rfl rfl ?_
  refine oz_ (xpick_t rfl rfl) rfl rfl ?_
  refine vn_ rfl rfl rfl ?_
  refine run_ret Tryz.func105 (res1 rfl rfl) ?_
  have hD : dsN ys_3 = true := by rw [dsN, ← lg_3, ← show i = m_3 by omega, ha]
  exact ⟨_, rfl, by rw [isPan_as hall, ← hn1, c69, decide_eq_true (by omega : ys_3.length ≤ 60), hD, ← hem2, c76]; simp; omega, E⟩
 refine vm_ rfl rfl rfl ?_
 refine o2_ rfl rfl rfl rfl ?_
 refine o2_ rfl rfl rfl rfl ?_
 refine oz_ (xpick_f rfl rfl) rfl rfl ?_
 refine oz_ (xnot rfl) rfl rfl ?_
 refine oz_ (xpick_t rfl rfl) rfl rfl ?_
 refine vn_ rfl rfl rfl ?_
 refine run_ret Tryz.func105 (res1 rfl rfl) ?_
 have hD : dsN ys_3 = true := by rw [dsN, ← lg_3, ← show i = m_3 by omega, ha]
 exact ⟨_, rfl, by rw [isPan_as hall, ← hn1, c69, decide_eq_true (by omega : ys_3.length ≤ 60), hD, ← hem2, c76]; simp, E⟩
end Go.Proofs.YtchblgaklknkcaaGreat
