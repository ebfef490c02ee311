/-
  The walk of the search by numbers. No condition beyond those written in each theorem.
-/
import Derived.Test.YtbihpggbabmebaaLeastF
namespace Go.Proofs.Ytbihpggbabmebaa
open Go.RowKit
set_option linter.unusedVariables false
set_option linter.unusedSimpArgs false
set_option linter.unusedSectionVars false
set_option maxRecDepth 4000

set_option maxHeartbeats 4000000 in
theorem l24Few_step (f : Nat) (p : Option Addr) (n c : Nat) (xs : List Role) (q : Option Addr) (m d : Nat) (ys : List File) (day : Int) (hR : areRoles xs = true) (ih : ∀ g, f = g + 1 → ∀ (lo : Nat) (p2 : Option Addr) (n2 c2 : Nat) (ch : List Nat) (fr : Nat) (w : World), lo ≤ w.heap.size → SnRoleS w p n c xs → SnFileS w q m d ys → (∀ i ∈ ch, i < xs.length) → fr ≤ xs.length → ch.length + g ≤ 8 → Ow strc 1 9 w lo w.heap.size p2 n2 c2 (nmsL xs ch) → Ret Try.prog 80 [.slice p n c, .slice q m d, .int .i64 day, .slice p2 n2 c2, .int .i64 (fr : Int), .int .i64 (g : Int)] w (fun v w' => Ext w w' ∧ ∃ q3 m3 d3, v = .tuple #[.slice q3 m3 d3, .bool (fewL (satN xs ys day) xs.length g fr ch).isSome] ∧ Ow strc 1 9 w' lo w'.heap.size q3 m3 d3 (nmsL xs ((fewL (satN xs ys day) xs.length g fr ch).getD [])))) (lo : Nat) (p2 : Option Addr) (n2 c2 : Nat) (ch : List Nat) (fr : Nat) (w : World) (hlo : lo ≤ w.heap.size) (H0 : SnRoleS w p n c xs) (K0 : SnFileS w q m d ys) (hch : ∀ i ∈ ch, i < xs.length) (hfr : fr ≤ xs.length) (hcf : ch.length + f ≤ 8) (C : Ow strc 1 9 w lo w.heap.size p2 n2 c2 (nmsL xs ch)) : Ret Try.prog 80 [.slice p n c, .slice q m d, .int .i64 day, .slice p2 n2 c2, .int .i64 (fr : Int), .int .i64 (f : Int)] w (fun v w' => Ext w w' ∧ ∃ q3 m3 d3, v = .tuple #[.slice q3 m3 d3, .bool (fewL (satN xs ys day) xs.length f fr ch).isSome] ∧ Ow strc 1 9 w' lo w'.heap.size q3 m3 d3 (nmsL xs ((fewL (satN xs ys day) xs.length f fr ch).getD []))) := by
  refine ret_of_run (N := 85) Try.func80 rfl rfl rfl ?_
  obtain ⟨hd, H⟩ := H0
  have hn := H.len
  have hn6 := H.n64
  obtain ⟨he_, K⟩ := K0
  have hm := K.len
  have hm6 := K.n64
  have hcl := C.len
  rw [nmsL_len] at hcl
  have hnl := nmsL_len xs ch
  have E : Ext w w := Ext.refl w
  refine run_seq ?_
  refine run_region ?_
  refine ov (xassign rfl) rfl rfl rfl ?_
  refine ov (xassign rfl) rfl rfl rfl ?_
  refine ops_nil ?_
  refine run_seq ?_
  refine run_seq ?_
  refine run_region ?_
  refine ov (xmove rfl) rfl rfl rfl ?_
  refine ov (xeql rfl rfl _ rfl) rfl rfl rfl ?_
  refine ods (fun c21 => ?_) (fun c21 => ?_)
  ·
    refine ops_nil ?_
    refine run_cond_t rfl ?_
    refine run_seq ?_
    refine run_seq ?_
    refine run_region ?_
    refine ov (xassign rfl) rfl rfl rfl ?_
    refine ops_nil ?_
    refine run_block ?_
    refine run_loop (ι := Nat × World) (fun x_ => match x_ with | (k, wr) => (Ext w wr) ∧ (Ow strc 1 9 wr lo w.heap.size p2 n2 c2 (nmsL xs ch)) ∧ (w.heap.size ≤ wr.heap.size) ∧ (k ≤ m) ∧ (allB k (allI (fun _ f => (ofN ch).any fun i => seeP (getR xs i) f day) ys) = true)) (fun x_ => match x_ with | (k, wr) => [(0, .slice p n c), (1, .slice q m d), (2, .int .i64 day), (3, .slice p2 n2 c2), (14, .int .i64 (k : Int))]) (fun x_ => match x_ with | (k, wr) => wr) (fun x_ => match x_ with | (k, wr) => m - k) ?_ (0, w) (⟨E, C, Nat.le_refl _, by omega, allB_zero⟩) ⟨rfl, rfl, rfl, rfl, rfl, trivial⟩ rfl
    intro i_ hI_ hback3
    obtain ⟨k, wr⟩ := i_
    obtain ⟨E, C, lz_wr, hk, ha⟩ := hI_
    try dsimp only
    have zr := E.size
    refine run_seq ?_
    refine run_seq ?_
    refine run_region ?_
    refine ov (xmove rfl) rfl rfl rfl ?_
    refine ov (xmove rfl) rfl rfl rfl ?_
    refine ov (xlen Try.underlying32 rfl) rfl rfl rfl ?_
    refine ov (xlss rfl rfl _ rfl) rfl rfl rfl ?_
    refine ods (fun c25 => ?_) (fun c25 => ?_)
    ·
      refine ops_nil ?_
      refine run_cond_t rfl ?_
      refine run_skip ?_
      refine run_seq ?_
      refine run_block ?_
      refine run_seq ?_
      refine run_region ?_
      refine ov (xassign rfl) rfl rfl rfl ?_
      refine ops_nil ?_
      refine run_seq ?_
      refine run_seq ?_
      refine run_region ?_
      refine ov (xassign rfl) rfl rfl rfl ?_
      refine ops_nil ?_
      refine run_block ?_
      refine run_loop (ι := Nat × Bool × World) (fun x_ => match x_ with | (i, sb, wr2) => (Ext w wr2) ∧ (Ow strc 1 9 wr2 lo w.heap.size p2 n2 c2 (nmsL xs ch)) ∧ (wr.heap.size ≤ wr2.heap.size) ∧ (i ≤ n2) ∧ (sb = seenTo xs ys day ch k i)) (fun x_ => match x_ with | (i, sb, wr2) => [(0, .slice p n c), (1, .slice q m d), (2, .int .i64 day), (3, .slice p2 n2 c2), (14, .int .i64 (k : Int)), (15, .bool sb), (16, .int .i64 (i : Int))]) (fun x_ => match x_ with | (i, sb, wr2) => wr2) (fun x_ => match x_ with | (i, sb, wr2) => n2 - i) ?_ (0, false, wr) (⟨E, C, Nat.le_refl _, by omega, rfl⟩) ⟨rfl, rfl, rfl, rfl, rfl, rfl, rfl, trivial⟩ rfl
      intro i_ hI_ hback7
      obtain ⟨i, sb, wr2⟩ := i_
      obtain ⟨E, C, lz_wr2, hi, hsb⟩ := hI_
      try dsimp only
      have zr := E.size
      refine run_seq ?_
      refine run_seq ?_
      refine run_region ?_
      refine ov (xmove rfl) rfl rfl rfl ?_
      refine ov (xmove rfl) rfl rfl rfl ?_
      refine ov (xlen Try.underlying49 rfl) rfl rfl rfl ?_
      refine ov (xlss rfl rfl _ rfl) rfl rfl rfl ?_
      refine ods (fun c31 => ?_) (fun c31 => ?_)
      ·
        refine ops_nil ?_
        refine run_cond_t rfl ?_
        refine run_skip ?_
        refine run_seq ?_
        refine run_block ?_
        refine run_draw (by kernel_rfl) (by kernel_rfl) ?_
        refine qv (fun w' x_ => xmove rfl) rfl rfl rfl ?_
        refine qbs (fun c34 => ?_) (fun c34 => ?_)
        ·
          refine qv (fun w' x_ => xmove rfl) rfl rfl rfl ?_
          refine qg rfl rfl rfl ?_
          refine qg rfl rfl rfl ?_
          refine qg rfl rfl rfl ?_
          refine qg rfl rfl rfl ?_
          refine qg rfl rfl rfl ?_
          refine qg rfl rfl rfl ?_
          refine qg rfl rfl rfl ?_
          refine qg rfl rfl rfl ?_
          refine qg rfl rfl rfl ?_
          refine qg rfl rfl rfl ?_
          refine qg rfl rfl rfl ?_
          refine qg rfl rfl rfl ?_
          refine qg rfl rfl rfl ?_
          refine qg rfl rfl rfl ?_
          refine qg rfl rfl rfl ?_
          refine qv (fun w' x_ => xpick_t rfl rfl) rfl rfl rfl ?_
          refine qv (fun w' x_ => xassign rfl) rfl rfl rfl ?_
          refine q_nil ?_
          intro w1 e1
          have z1 := e1.size
          have E := E.trans e1
          replace C := C.ext e1
          refine run_inBlock ?_
          refine run_region ?_
          refine ov (xmove rfl) rfl rfl rfl ?_
          refine ov (xadd rfl rfl (by unfold I64; omega)) rfl rfl rfl ?_
          refine ov (xassign rfl) rfl rfl rfl ?_
          refine ops_nil ?_
          refine run_sub ?_ (hback7 (i + 1, true, w1) (⟨E, C, by omega, by omega, (seenTo_t (by omega) (by rw [← hsb]; exact c34)).symm⟩) (by first | omega | (dsimp only; omega)))
          exact ⟨rfl, rfl, rfl, rfl, rfl, rfl, rfl, trivial⟩
        ·
          refine qv (fun w' x_ => xmove rfl) rfl rfl rfl ?_
          refine qv (fun w' x_ => xmove rfl) rfl rfl rfl ?_
          refine qv (fun w' x_ => xmove rfl) rfl rfl rfl ?_
          refine qv (fun w' x_ => xmove rfl) rfl rfl rfl ?_
          refine qv (fun w' x_ => xmove rfl) rfl rfl rfl ?_
          have h40 := (C.sl).at (i := i) (by omega)
          refine qv (fun w' x_ => xindexN (i := i) Try.underlying49 Try.sizeOf9 rfl rfl rfl ((C.sl).p (i := i) (by omega)) (by have := (C.sl).len; omega)) rfl rfl rfl ?_
          refine qv (v := .string (nmsL xs ch)[i]) (fun w' x_ => xloadz Try.isAgg9 rfl ((h40).ext x_) rfl) rfl rfl rfl ?_
          have t42 := fun (w' : World) (x_ : Ext wr2 w') => Ret.q (w := w') (l24Role_ok _ _ _ _ ((nmsL xs ch)[i]) _ ((H.ext E).ext x_).sn)
          refine qc (fun w' => xcall Try.call57 rfl) rfl rfl rfl t42 ?_
          clear t42
          have hrx := nmsL_role hR hch (j := i) (by omega) (by omega)
          have hcx := hch _ (List.getElem_mem (by omega : i < ch.length))
          have h43 := (H.ext E).at (i := (roleOf xs ((nmsL xs ch)[i]'(by omega))).toNat) (by omega)
          refine qv (fun w' x_ => xindexN (i := (roleOf xs ((nmsL xs ch)[i]'(by omega))).toNat) (m := (roleOf xs ((nmsL xs ch)[i]'(by omega)))) (n := n) Try.underlying25 Try.sizeOf71 rfl rfl (by omega) ((H.ext E).p (i := (roleOf xs ((nmsL xs ch)[i]'(by omega))).toNat) (by omega)) (by have := (H.ext E).len; omega)) rfl rfl rfl ?_
          refine qv (v := .agg #[.string xs[(roleOf xs ((nmsL xs ch)[i]'(by omega))).toNat].Name, .int .i64 xs[(roleOf xs ((nmsL xs ch)[i]'(by omega))).toNat].Level, .slice (hd (roleOf xs ((nmsL xs ch)[i]'(by omega))).toNat).p (hd (roleOf xs ((nmsL xs ch)[i]'(by omega))).toNat).n (hd (roleOf xs ((nmsL xs ch)[i]'(by omega))).toNat).c]) (fun w' x_ => xloadN Try.isAgg71 Try.sizeOf71 rfl ((h43).ext x_) rfl) rfl rfl rfl ?_
          refine qv (fun w' x_ => xmove rfl) rfl rfl rfl ?_
          refine qv (fun w' x_ => xmove rfl) rfl rfl rfl ?_
          have h47 := (K.ext E).at (i := k) (by omega)
          refine qv (fun w' x_ => xindexN (i := k) Try.underlying32 Try.sizeOf54 rfl rfl rfl ((K.ext E).p (i := k) (by omega)) (by have := (K.ext E).len; omega)) rfl rfl rfl ?_
          refine qv (v := .agg #[.string ys[k].Code, .int .i64 ys[k].Level, .slice (he_ k).p (he_ k).n (he_ k).c, .int .i64 ys[k].Until]) (fun w' x_ => xloadN Try.isAgg54 Try.sizeOf54 rfl ((h47).ext x_) rfl) rfl rfl rfl ?_
          refine qv (fun w' x_ => xmove rfl) rfl rfl rfl ?_
          have t50 := fun (w' : World) (x_ : Ext wr2 w') => Ret.q (w := w') (l24Sees_ok _ _ _ _ (day) _ (((show Sl strc 1 _ _ _ _ xs[(roleOf xs ((nmsL xs ch)[i]'(by omega))).toNat].Groups from (H.inner (i := (roleOf xs ((nmsL xs ch)[i]'(by omega))).toNat) (by omega)).ext E)).ext x_) (((show Sl strc 1 _ _ _ _ ys[k].Groups from (K.inner (i := k) (by omega)).ext E)).ext x_))
          refine qc (fun w' => xcall Try.call77 rfl) rfl rfl rfl t50 ?_
          clear t50
          refine qbs (fun c50 => ?_) (fun c50 => ?_)
          ·
            refine qv (fun w' x_ => xpick_f rfl rfl) rfl rfl rfl ?_
            refine qv (fun w' x_ => xassign rfl) rfl rfl rfl ?_
            refine q_nil ?_
            intro w1 e1
            have z1 := e1.size
            have E := E.trans e1
            replace C := C.ext e1
            refine run_inBlock ?_
            refine run_region ?_
            refine ov (xmove rfl) rfl rfl rfl ?_
            refine ov (xadd rfl rfl (by unfold I64; omega)) rfl rfl rfl ?_
            refine ov (xassign rfl) rfl rfl rfl ?_
            refine ops_nil ?_
            refine run_sub ?_ (hback7 (i + 1, true, w1) (⟨E, C, by omega, by omega, by rw [seenTo_f (by omega) (by rw [← hsb]; exact c34), ← hrx, getR_eq (by omega), getF_eq (by simp; omega)]; simpa using c50.symm⟩) (by first | omega | (dsimp only; omega)))
            exact ⟨rfl, rfl, rfl, rfl, rfl, rfl, rfl, trivial⟩
          ·
            refine qv (fun w' x_ => xpick_f rfl rfl) rfl rfl rfl ?_
            refine qv (fun w' x_ => xassign rfl) rfl rfl rfl ?_
            refine q_nil ?_
            intro w1 e1
            have z1 := e1.size
            have E := E.trans e1
            replace C := C.ext e1
            refine run_inBlock ?_
            refine run_region ?_
            refine ov (xmove rfl) rfl rfl rfl ?_
            refine ov (xadd rfl rfl (by unfold I64; omega)) rfl rfl rfl ?_
            refine ov (xassign rfl) rfl rfl rfl ?_
            refine ops_nil ?_
            refine run_sub ?_ (hback7 (i + 1, false, w1) (⟨E, C, by omega, by omega, by rw [seenTo_f (by omega) (by rw [← hsb]; exact c34), ← hrx, getR_eq (by omega), getF_eq (by simp; omega)]; simpa using c50.symm⟩) (by first | omega | (dsimp only; omega)))
            exact ⟨rfl, rfl, rfl, rfl, rfl, rfl, rfl, trivial⟩
      ·
        refine ops_nil ?_
        refine run_cond_f rfl ?_
        refine run_exit rfl ?_
        refine run_seq ?_
        refine run_region ?_
        refine ov (xmove rfl) rfl rfl rfl ?_
        refine obs (fun c52 => ?_) (fun c52 => ?_)
        ·
          refine ov (xnot rfl) rfl rfl rfl ?_
          refine ops_nil ?_
          refine run_cond_f rfl ?_
          refine run_skip ?_
          refine run_inBlock ?_
          refine run_region ?_
          refine ov (xmove rfl) rfl rfl rfl ?_
          refine ov (xadd rfl rfl (by unfold I64; omega)) rfl rfl rfl ?_
          refine ov (xassign rfl) rfl rfl rfl ?_
          refine ops_nil ?_
          refine run_sub ?_ (hback3 (k + 1, wr2) (⟨E, C, by omega, by omega, allB_succ ha (by rw [allI_of (by omega), ← seenTo_all (by omega), ← hcl, (by omega : n2 = i), ← hsb]; assumption)⟩) (by first | omega | (dsimp only; omega)))
          exact ⟨rfl, rfl, rfl, rfl, rfl, trivial⟩
        ·
          refine ov (xnot rfl) rfl rfl rfl ?_
          refine ops_nil ?_
          refine run_cond_t rfl ?_
          refine run_seq ?_
          refine run_region ?_
          refine ov (xassign rfl) rfl rfl rfl ?_
          refine ov (xassign rfl) rfl rfl rfl ?_
          refine ops_nil ?_
          refine run_ret Try.func80 (res2 rfl rfl rfl) ?_
          obtain rfl : f = 0 := by omega
          obtain rfl : i = n2 := by omega
          have hs_ : seenTo xs ys day ch k ch.length = false := by rw [← hcl, ← hsb]; assumption
          exact ⟨_, rfl, E, none, 0, 0, by rw [few_zero_f (by omega) hs_]; rfl, by rw [few_zero_f (by omega) hs_]; exact Ow.none _ _ _ _ _ _⟩
    ·
      refine ops_nil ?_
      refine run_cond_f rfl ?_
      refine run_exit rfl ?_
      refine run_seq ?_
      refine run_region ?_
      refine ov (xmove rfl) rfl rfl rfl ?_
      refine ov (xassign rfl) rfl rfl rfl ?_
      refine ov (xassign rfl) rfl rfl rfl ?_
      refine ops_nil ?_
      refine run_ret Try.func80 (res2 rfl rfl rfl) ?_
      obtain rfl : f = 0 := by omega
      obtain rfl : k = m := by omega
      rw [hm] at ha
      exact ⟨_, rfl, E, _, _, _, by rw [few_zero_t ha]; rfl, by rw [few_zero_t ha]; exact C.wide (by omega) (by omega)⟩
  ·
    obtain ⟨g, hg⟩ : ∃ g, f = g + 1 := ⟨f - 1, by omega⟩
    have ihg := ih g hg
    refine ops_nil ?_
    refine run_cond_f rfl ?_
    refine run_skip ?_
    refine run_seq ?_
    refine run_seq ?_
    refine run_region ?_
    refine ov (xmove rfl) rfl rfl rfl ?_
    refine ov (xassign rfl) rfl rfl rfl ?_
    refine ops_nil ?_
    refine run_block ?_
    refine run_loop (ι := Nat × World) (fun x_ => match x_ with | (i, wr) => (Ext w wr) ∧ (Ow strc 1 9 wr lo w.heap.size p2 n2 c2 (nmsL xs ch)) ∧ (w.heap.size ≤ wr.heap.size) ∧ (i ≤ n) ∧ ((fewL (satN xs ys day) xs.length (g + 1) fr ch) = firstI (fun i => (fewL (satN xs ys day) xs.length g (i + 1) (ch ++ [i]))) (xs.length - i) i)) (fun x_ => match x_ with | (i, wr) => [(0, .slice p n c), (1, .slice q m d), (2, .int .i64 day), (3, .slice p2 n2 c2), (5, .int .i64 (f : Int)), (17, .int .i64 (i : Int))]) (fun x_ => match x_ with | (i, wr) => wr) (fun x_ => match x_ with | (i, wr) => n - i) ?_ (fr, w) (⟨E, C, Nat.le_refl _, by omega, rfl⟩) ⟨rfl, rfl, rfl, rfl, rfl, rfl, trivial⟩ rfl
    intro i_ hI_ hback14
    obtain ⟨i, wr⟩ := i_
    obtain ⟨E, C, lz_wr, hi, hfl⟩ := hI_
    try dsimp only
    have zr := E.size
    refine run_seq ?_
    refine run_seq ?_
    refine run_region ?_
    refine ov (xmove rfl) rfl rfl rfl ?_
    refine ov (xmove rfl) rfl rfl rfl ?_
    refine ov (xlen Try.underlying25 rfl) rfl rfl rfl ?_
    refine ov (xlss rfl rfl _ rfl) rfl rfl rfl ?_
    refine ods (fun c59 => ?_) (fun c59 => ?_)
    ·
      refine ops_nil ?_
      refine run_cond_t rfl ?_
      refine run_skip ?_
      refine run_seq ?_
      refine run_block ?_
      refine run_seq ?_
      have RE := E
      refine run_held (ι := Option Addr × Nat × Nat) (fun x_ w' => match x_ with | (q3, m3, d3) => Ext wr w' ∧ Ow strc 1 9 w' lo w'.heap.size q3 m3 d3 (nmsL xs ((fewL (satN xs ys day) xs.length g (i + 1) (ch ++ [i])).getD []))) (fun x_ => match x_ with | (q3, m3, d3) => [(0, .slice p n c), (1, .slice q m d), (2, .int .i64 day), (3, .slice p2 n2 c2), (5, .int .i64 (f : Int)), (17, .int .i64 (i : Int)), (56, .int .i64 (i : Int)), (57, .slice p n c), (58, .int .i64 (n : Int)), (59, .bool true), (18, .slice q3 m3 d3), (19, .bool (fewL (satN xs ys day) xs.length g (i + 1) (ch ++ [i])).isSome)]) (by kernel_rfl) ?_ ?_
      · intro w0_ F
        have z0_ := F.size
        have E := E.trans F
        replace C := C.ext F
        refine h_take 0 rfl (by kernel_rfl) (by kernel_rfl) (by kernel_rfl) (fun w' x_ => xmove rfl) rfl rfl rfl F ?_
        refine h_take 1 rfl (by kernel_rfl) (by kernel_rfl) (by kernel_rfl) (fun w' x_ => xmove rfl) rfl rfl rfl F ?_
        refine h_take 2 rfl (by kernel_rfl) (by kernel_rfl) (by kernel_rfl) (fun w' x_ => xmove rfl) rfl rfl rfl F ?_
        refine h_take 4 rfl (by kernel_rfl) (by kernel_rfl) (by kernel_rfl) (fun w' x_ => xmove rfl) rfl rfl rfl F ?_
        refine h_take 6 rfl (by kernel_rfl) (by kernel_rfl) (by kernel_rfl) (fun w' x_ => xmove rfl) rfl rfl rfl F ?_
        refine h_take 7 rfl (by kernel_rfl) (by kernel_rfl) (by kernel_rfl) (fun w' x_ => xmove rfl) rfl rfl rfl F ?_
        have h71 := (H.ext RE).at (i := i) (by omega)
        refine h_take 8 rfl (by kernel_rfl) (by kernel_rfl) (by kernel_rfl) (fun w' x_ => xindexN (i := i) Try.underlying25 Try.sizeOf71 rfl rfl rfl ((H.ext RE).p (i := i) (by omega)) (by have := (H.ext RE).len; omega)) rfl rfl rfl F ?_
        refine h_take 9 rfl (by kernel_rfl) (by kernel_rfl) (by kernel_rfl) (fun w' x_ => xfieldAddr fo71f0 rfl) rfl rfl rfl F ?_
        refine h_take 10 (v := .string xs[i].Name) rfl (by kernel_rfl) (by kernel_rfl) (by kernel_rfl) (fun w' x_ => xload1 Try.isAgg9 rfl ((h71).ext x_) rfl) rfl rfl rfl F ?_
        refine h_take 13 rfl (by kernel_rfl) (by kernel_rfl) (by kernel_rfl) (fun w' x_ => xmove rfl) rfl rfl rfl F ?_
        refine h_take 14 rfl (by kernel_rfl) (by kernel_rfl) (by kernel_rfl) (fun w' x_ => xaddE (m := (i : Int)) (n := 1) (r := ((i + 1 : Nat) : Int)) rfl rfl (by omega) (by unfold I64; omega)) rfl rfl rfl F ?_
        refine h_take 15 rfl (by kernel_rfl) (by kernel_rfl) (by kernel_rfl) (fun w' x_ => xmove rfl) rfl rfl rfl F ?_
        refine h_take 16 rfl (by kernel_rfl) (by kernel_rfl) (by kernel_rfl) (fun w' x_ => xsubE (m := (f : Int)) (n := 1) (r := (g : Int)) rfl rfl (by omega) (by unfold I64; omega)) rfl rfl rfl F ?_
        refine h_ready (rs := [3, 11]) (by kernel_rfl) (by decide) ⟨?_, ?_, trivial⟩
        ·
          refine hs_build (len := 0) (vs := []) (cs := []) (sz := 1) Try.underlying49 inf9 rfl rfl (by decide) (by rfl) (by rfl) (by simp [Value.cells]) rfl F rfl rfl rfl ?_
          intro b1 w1 e1 hb1 hz1 O1
          have E := E.trans e1
          replace C := C.ext e1
          have G1 : Ow strc 1 9 w1 b1 (b1 + 1) (some ⟨b1, 0, none⟩) 0 0 ([] : List ByteArray) := Own.ow (by simpa [strc] using O1) rfl (by omega) (Nat.le_refl _) (by omega) (by intro x hx; rfl)
          have F := F.trans e1
          refine h_ready (rs := [5, 11]) (by kernel_rfl) (by decide) ⟨?_, ?_, trivial⟩
          ·
            refine hs_appT (bytes := 16) (nm := n2) G1 (by rfl) (by rfl) elem9 (C.sl) (ow_nil C) (by intro y hy; rfl) (by intro y hy u hu; simp only [strc, List.mem_singleton] at hu; subst hu; rfl) (by omega) (by omega) (by omega) (by omega) F (by omega) rfl rfl rfl ?_
            intro p2 c2_ w2 m2 k2 G2
            have hz2 := m2.size
            have E := m2.toExt E (by omega)
            have F := m2.toExt F (by omega)
            replace C := C.off m2 (by omega)
            refine h_ready (rs := [11]) (by kernel_rfl) (by decide) ⟨?_, trivial⟩
            ·
              refine hs_build (len := 1) (vs := [.string xs[i].Name]) (cs := [.string xs[i].Name]) (sz := 1) Try.underlying49 inf9 rfl rfl (by decide) (by rfl) (by rfl) (by simp [Value.cells]) rfl F rfl rfl rfl ?_
              intro b3 w3 e3 hb3 hz3 O3
              have E := E.trans e3
              replace C := C.ext e3
              replace G2 := G2.ext e3
              have F := F.trans e3
              refine h_ready (rs := [12]) (by kernel_rfl) (by decide) ⟨?_, trivial⟩
              ·
                refine hs_appT (bytes := 16) (nm := (n2 + 1)) G2 (by rfl) (by rfl) elem9 (Own.sl1 (y := xs[i].Name) O3) (by intro h; cases h) (by intro y hy; rfl) (by intro y hy u hu; rw [List.mem_singleton] at hy; subst hy; revert u; simp [Value.oneCell', strc]) (by omega) (by omega) (by omega) (by omega) F (by omega) rfl rfl rfl ?_
                intro p4 c4_ w4 m4 k4 G4
                have hz4 := m4.size
                have E := m4.toExt E (by omega)
                have F := m4.toExt F (by omega)
                replace C := C.off m4 (by omega)
                try replace O3 := m4.own O3 (by omega)
                refine h_ready (rs := [17]) (by kernel_rfl) (by decide) ⟨?_, trivial⟩
                ·
                  refine hs_call rfl (xcall Try.call80 rfl) rfl rfl rfl (ihg lo _ _ _ (ch ++ [i]) (i + 1) _ (by omega) (H.ext E).sn (K.ext E).sn (by intro j hj; rcases List.mem_append.1 hj with h | h; exact hch j h; rw [List.mem_singleton] at h; omega) (by omega) (by rw [List.length_append, List.length_singleton]; omega) (by rw [← nmsL_app xs ch (by omega)]; simpa using (Ow.wide (lo' := lo) (hi' := w4.heap.size) G4 (by omega) (by omega)))) ?_
                  rintro _ w5 ⟨e5, q80, m80, d80, rfl, G80⟩
                  have z5 := e5.size
                  have E := E.trans e5
                  replace C := C.ext e5
                  replace G4 := G4.ext e5
                  have F := F.trans e5
                  refine ⟨F, ?_⟩
                  refine h_take 18 rfl (by kernel_rfl) (by kernel_rfl) (by kernel_rfl) (fun w' x_ => xmove rfl) rfl rfl rfl F ?_
                  refine h_take 19 rfl (by kernel_rfl) (by kernel_rfl) (by kernel_rfl) (fun w' x_ => xextract rfl rfl) rfl rfl rfl F ?_
                  refine h_take 20 rfl (by kernel_rfl) (by kernel_rfl) (by kernel_rfl) (fun w' x_ => xextract rfl rfl) rfl rfl rfl F ?_
                  refine h_take 21 rfl (by kernel_rfl) (by kernel_rfl) (by kernel_rfl) (fun w' x_ => xassign rfl) rfl rfl rfl F ?_
                  refine h_take 22 rfl (by kernel_rfl) (by kernel_rfl) (by kernel_rfl) (fun w' x_ => xassign rfl) rfl rfl rfl F ?_
                  refine h_done (by kernel_rfl) ?_
                  intro a_ ha_
                  exact ⟨(q80, m80, d80), ⟨F, G80.wide (by omega) (by omega)⟩, ha_.sub ⟨rfl, rfl, rfl, rfl, rfl, rfl, rfl, rfl, rfl, rfl, rfl, rfl, trivial⟩⟩
          ·
            refine hs_build (len := 1) (vs := [.string xs[i].Name]) (cs := [.string xs[i].Name]) (sz := 1) Try.underlying49 inf9 rfl rfl (by decide) (by rfl) (by rfl) (by simp [Value.cells]) rfl F rfl rfl rfl ?_
            intro b2 w2 e2 hb2 hz2 O2
            have E := E.trans e2
            replace C := C.ext e2
            replace G1 := G1.ext e2
            have F := F.trans e2
            refine h_ready (rs := [5]) (by kernel_rfl) (by decide) ⟨?_, trivial⟩
            ·
              refine hs_appT (bytes := 16) (nm := n2) G1 (by rfl) (by rfl) elem9 (C.sl) (ow_nil C) (by intro y hy; rfl) (by intro y hy u hu; simp only [strc, List.mem_singleton] at hu; subst hu; rfl) (by omega) (by omega) (by omega) (by omega) F (by omega) rfl rfl rfl ?_
              intro p3 c3_ w3 m3 k3 G3
              have hz3 := m3.size
              have E := m3.toExt E (by omega)
              have F := m3.toExt F (by omega)
              replace C := C.off m3 (by omega)
              try replace O2 := m3.own O2 (by omega)
              refine h_ready (rs := [12]) (by kernel_rfl) (by decide) ⟨?_, trivial⟩
              ·
                refine hs_appT (bytes := 16) (nm := (n2 + 1)) G3 (by rfl) (by rfl) elem9 (Own.sl1 (y := xs[i].Name) O2) (by intro h; cases h) (by intro y hy; rfl) (by intro y hy u hu; rw [List.mem_singleton] at hy; subst hy; revert u; simp [Value.oneCell', strc]) (by omega) (by omega) (by omega) (by omega) F (by omega) rfl rfl rfl ?_
                intro p4 c4_ w4 m4 k4 G4
                have hz4 := m4.size
                have E := m4.toExt E (by omega)
                have F := m4.toExt F (by omega)
                replace C := C.off m4 (by omega)
                try replace O2 := m4.own O2 (by omega)
                refine h_ready (rs := [17]) (by kernel_rfl) (by decide) ⟨?_, trivial⟩
                ·
                  refine hs_call rfl (xcall Try.call80 rfl) rfl rfl rfl (ihg lo _ _ _ (ch ++ [i]) (i + 1) _ (by omega) (H.ext E).sn (K.ext E).sn (by intro j hj; rcases List.mem_append.1 hj with h | h; exact hch j h; rw [List.mem_singleton] at h; omega) (by omega) (by rw [List.length_append, List.length_singleton]; omega) (by rw [← nmsL_app xs ch (by omega)]; simpa using (Ow.wide (lo' := lo) (hi' := w4.heap.size) G4 (by omega) (by omega)))) ?_
                  rintro _ w5 ⟨e5, q80, m80, d80, rfl, G80⟩
                  have z5 := e5.size
                  have E := E.trans e5
                  replace C := C.ext e5
                  replace G4 := G4.ext e5
                  have F := F.trans e5
                  refine ⟨F, ?_⟩
                  refine h_take 18 rfl (by kernel_rfl) (by kernel_rfl) (by kernel_rfl) (fun w' x_ => xmove rfl) rfl rfl rfl F ?_
                  refine h_take 19 rfl (by kernel_rfl) (by kernel_rfl) (by kernel_rfl) (fun w' x_ => xextract rfl rfl) rfl rfl rfl F ?_
                  refine h_take 20 rfl (by kernel_rfl) (by kernel_rfl) (by kernel_rfl) (fun w' x_ => xextract rfl rfl) rfl rfl rfl F ?_
                  refine h_take 21 rfl (by kernel_rfl) (by kernel_rfl) (by kernel_rfl) (fun w' x_ => xassign rfl) rfl rfl rfl F ?_
                  refine h_take 22 rfl (by kernel_rfl) (by kernel_rfl) (by kernel_rfl) (fun w' x_ => xassign rfl) rfl rfl rfl F ?_
                  refine h_done (by kernel_rfl) ?_
                  intro a_ ha_
                  exact ⟨(q80, m80, d80), ⟨F, G80.wide (by omega) (by omega)⟩, ha_.sub ⟨rfl, rfl, rfl, rfl, rfl, rfl, rfl, rfl, rfl, rfl, rfl, rfl, trivial⟩⟩
        ·
          refine hs_build (len := 1) (vs := [.string xs[i].Name]) (cs := [.string xs[i].Name]) (sz := 1) Try.underlying49 inf9 rfl rfl (by decide) (by rfl) (by rfl) (by simp [Value.cells]) rfl F rfl rfl rfl ?_
          intro b1 w1 e1 hb1 hz1 O1
          have E := E.trans e1
          replace C := C.ext e1
          have F := F.trans e1
          refine h_ready (rs := [3]) (by kernel_rfl) (by decide) ⟨?_, trivial⟩
          ·
            refine hs_build (len := 0) (vs := []) (cs := []) (sz := 1) Try.underlying49 inf9 rfl rfl (by decide) (by rfl) (by rfl) (by simp [Value.cells]) rfl F rfl rfl rfl ?_
            intro b2 w2 e2 hb2 hz2 O2
            have E := E.trans e2
            replace C := C.ext e2
            replace O1 := O1.ext e2
            have G2 : Ow strc 1 9 w2 b2 (b2 + 1) (some ⟨b2, 0, none⟩) 0 0 ([] : List ByteArray) := Own.ow (by simpa [strc] using O2) rfl (by omega) (Nat.le_refl _) (by omega) (by intro x hx; rfl)
            have F := F.trans e2
            refine h_ready (rs := [5]) (by kernel_rfl) (by decide) ⟨?_, trivial⟩
            ·
              refine hs_appT (bytes := 16) (nm := n2) G2 (by rfl) (by rfl) elem9 (C.sl) (ow_nil C) (by intro y hy; rfl) (by intro y hy u hu; simp only [strc, List.mem_singleton] at hu; subst hu; rfl) (by omega) (by omega) (by omega) (by omega) F (by omega) rfl rfl rfl ?_
              intro p3 c3_ w3 m3 k3 G3
              have hz3 := m3.size
              have E := m3.toExt E (by omega)
              have F := m3.toExt F (by omega)
              replace C := C.off m3 (by omega)
              try replace O1 := m3.own O1 (by omega)
              refine h_ready (rs := [12]) (by kernel_rfl) (by decide) ⟨?_, trivial⟩
              ·
                refine hs_appT (bytes := 16) (nm := (n2 + 1)) G3 (by rfl) (by rfl) elem9 (Own.sl1 (y := xs[i].Name) O1) (by intro h; cases h) (by intro y hy; rfl) (by intro y hy u hu; rw [List.mem_singleton] at hy; subst hy; revert u; simp [Value.oneCell', strc]) (by omega) (by omega) (by omega) (by omega) F (by omega) rfl rfl rfl ?_
                intro p4 c4_ w4 m4 k4 G4
                have hz4 := m4.size
                have E := m4.toExt E (by omega)
                have F := m4.toExt F (by omega)
                replace C := C.off m4 (by omega)
                try replace O1 := m4.own O1 (by omega)
                refine h_ready (rs := [17]) (by kernel_rfl) (by decide) ⟨?_, trivial⟩
                ·
                  refine hs_call rfl (xcall Try.call80 rfl) rfl rfl rfl (ihg lo _ _ _ (ch ++ [i]) (i + 1) _ (by omega) (H.ext E).sn (K.ext E).sn (by intro j hj; rcases List.mem_append.1 hj with h | h; exact hch j h; rw [List.mem_singleton] at h; omega) (by omega) (by rw [List.length_append, List.length_singleton]; omega) (by rw [← nmsL_app xs ch (by omega)]; simpa using (Ow.wide (lo' := lo) (hi' := w4.heap.size) G4 (by omega) (by omega)))) ?_
                  rintro _ w5 ⟨e5, q80, m80, d80, rfl, G80⟩
                  have z5 := e5.size
                  have E := E.trans e5
                  replace C := C.ext e5
                  replace G4 := G4.ext e5
                  have F := F.trans e5
                  refine ⟨F, ?_⟩
                  refine h_take 18 rfl (by kernel_rfl) (by kernel_rfl) (by kernel_rfl) (fun w' x_ => xmove rfl) rfl rfl rfl F ?_
                  refine h_take 19 rfl (by kernel_rfl) (by kernel_rfl) (by kernel_rfl) (fun w' x_ => xextract rfl rfl) rfl rfl rfl F ?_
                  refine h_take 20 rfl (by kernel_rfl) (by kernel_rfl) (by kernel_rfl) (fun w' x_ => xextract rfl rfl) rfl rfl rfl F ?_
                  refine h_take 21 rfl (by kernel_rfl) (by kernel_rfl) (by kernel_rfl) (fun w' x_ => xassign rfl) rfl rfl rfl F ?_
                  refine h_take 22 rfl (by kernel_rfl) (by kernel_rfl) (by kernel_rfl) (fun w' x_ => xassign rfl) rfl rfl rfl F ?_
                  refine h_done (by kernel_rfl) ?_
                  intro a_ ha_
                  exact ⟨(q80, m80, d80), ⟨F, G80.wide (by omega) (by omega)⟩, ha_.sub ⟨rfl, rfl, rfl, rfl, rfl, rfl, rfl, rfl, rfl, rfl, rfl, rfl, trivial⟩⟩
      · intro x_
        obtain ⟨q3, m3, d3⟩ := x_
        rintro w1 ⟨e1, G8_⟩
        have z1 := e1.size
        have E := E.trans e1
        replace C := C.ext e1
        refine run_seq ?_
        refine run_region ?_
        refine ov (xmove rfl) rfl rfl rfl ?_
        refine obs (fun c83 => ?_) (fun c83 => ?_)
        ·
          refine ops_nil ?_
          refine run_cond_t rfl ?_
          refine run_seq ?_
          refine run_region ?_
          refine ov (xmove rfl) rfl rfl rfl ?_
          refine ov (xassign rfl) rfl rfl rfl ?_
          refine ov (xassign rfl) rfl rfl rfl ?_
          refine ops_nil ?_
          refine run_ret Try.func80 (res2 rfl rfl rfl) ?_
          obtain ⟨y_, hy_⟩ := Option.isSome_iff_exists.1 c83
          have he : (fewL (satN xs ys day) xs.length f fr ch) = (fewL (satN xs ys day) xs.length g (i + 1) (ch ++ [i])) := by rw [hg, hfl, (by omega : xs.length - i = (xs.length - i - 1) + 1), firstI_at hy_, hy_]
          exact ⟨_, rfl, E, _, _, _, by rw [he, c83], by rw [he]; exact G8_.wide (by omega) (by omega)⟩
        ·
          refine ops_nil ?_
          refine run_cond_f rfl ?_
          refine run_skip ?_
          refine run_inBlock ?_
          refine run_region ?_
          refine ov (xmove rfl) rfl rfl rfl ?_
          refine ov (xadd rfl rfl (by unfold I64; omega)) rfl rfl rfl ?_
          refine ov (xassign rfl) rfl rfl rfl ?_
          refine ops_nil ?_
          refine run_sub ?_ (hback14 (i + 1, w1) (⟨E, C, by omega, by omega, by rw [hfl, (by omega : xs.length - i = (xs.length - (i + 1)) + 1)]; exact firstI_on (Option.isNone_iff_eq_none.1 (by simpa using c83))⟩) (by first | omega | (dsimp only; omega)))
          exact ⟨rfl, rfl, rfl, rfl, rfl, rfl, trivial⟩
    ·
      refine ops_nil ?_
      refine run_cond_f rfl ?_
      refine run_exit rfl ?_
      refine run_seq ?_
      refine run_region ?_
      refine ov (xassign rfl) rfl rfl rfl ?_
      refine ov (xassign rfl) rfl rfl rfl ?_
      refine ops_nil ?_
      refine run_ret Try.func80 (res2 rfl rfl rfl) ?_
      have he : (fewL (satN xs ys day) xs.length f fr ch) = none := by rw [hg, hfl, (by omega : xs.length - i = 0)]; rfl
      exact ⟨_, rfl, E, none, 0, 0, by rw [he]; rfl, by rw [he]; exact Ow.none _ _ _ _ _ _⟩

theorem l24Few_ok {p : Option Addr} {n c : Nat} {xs : List Role} {q : Option Addr} {m d : Nat} {ys : List File} {day : Int} (hR : areRoles xs = true) : ∀ (f : Nat), ∀ (lo : Nat) (p2 : Option Addr) (n2 c2 : Nat) (ch : List Nat) (fr : Nat) (w : World), lo ≤ w.heap.size → SnRoleS w p n c xs → SnFileS w q m d ys → (∀ i ∈ ch, i < xs.length) → fr ≤ xs.length → ch.length + f ≤ 8 → Ow strc 1 9 w lo w.heap.size p2 n2 c2 (nmsL xs ch) → Ret Try.prog 80 [.slice p n c, .slice q m d, .int .i64 day, .slice p2 n2 c2, .int .i64 (fr : Int), .int .i64 (f : Int)] w (fun v w' => Ext w w' ∧ ∃ q3 m3 d3, v = .tuple #[.slice q3 m3 d3, .bool (fewL (satN xs ys day) xs.length f fr ch).isSome] ∧ Ow strc 1 9 w' lo w'.heap.size q3 m3 d3 (nmsL xs ((fewL (satN xs ys day) xs.length f fr ch).getD [])))
  | 0 => fun lo p2 n2 c2 ch fr w h1 h2 h3 h4 h5 h6 h7 => l24Few_step 0 p n c xs q m d ys day hR (fun g e => by omega) lo p2 n2 c2 ch fr w h1 h2 h3 h4 h5 h6 h7
  | f + 1 => fun lo p2 n2 c2 ch fr w h1 h2 h3 h4 h5 h6 h7 => l24Few_step (f + 1) p n c xs q m d ys day hR (fun g e => by
      obtain rfl : f = g := by omega
      exact l24Few_ok hR f) lo p2 n2 c2 ch fr w h1 h2 h3 h4 h5 h6 h7

set_option maxHeartbeats 2000000 in
theorem sLeastRoles_ok (p : Option Addr) (n c : Nat) (xs : List Role) (q : Option Addr) (m d : Nat) (ys : List File) (day : Int) (w : World) (H0 : SnRoleS w p n c xs) (K0 : SnFileS w q m d ys) (hx : ∀ x ∈ xs, x.ok) (hy : ∀ x ∈ ys, x.ok) : Ret Try.prog 47 [.slice p n c, .slice q m d, .int .i64 day] w (fun v w' => Ext w w' ∧ ∃ q m d, v = .tuple #[.slice q m d, .int .i64 (leastR xs ys day).2] ∧ Ow strc 1 9 w' w.heap.size w'.heap.size q m d (leastR xs ys day).1) := by
  refine ret_of_run (N := 36) Try.func47 rfl rfl rfl ?_
  obtain ⟨hd, H⟩ := H0
  have hn := H.len
  have hn6 := H.n64
  obtain ⟨he_, K⟩ := K0
  have hm := K.len
  have hm6 := K.n64
  have E : Ext w w := Ext.refl w
  refine run_seq ?_
  refine run_region ?_
  refine ov (xassign rfl) rfl rfl rfl ?_
  refine ov (xassign rfl) rfl rfl rfl ?_
  refine ops_nil ?_
  refine run_seq ?_
  refine run_region ?_
  refine ov (xmove rfl) rfl rfl rfl ?_
  refine ov (xmove rfl) rfl rfl rfl ?_
  refine ov (xmove rfl) rfl rfl rfl ?_
  refine oc (xcall Try.call72 rfl) rfl rfl rfl (l24Code_ok _ _ _ _ _ _ _ _ (day) _ (H.ext E).sn (K.ext E).sn (by assumption) (by assumption)) ?_
  rintro _ w1 ⟨rfl, e1⟩
  have z1 := e1.size
  have E := E.trans e1
  refine ov (xassign rfl) rfl rfl rfl ?_
  refine ops_nil ?_
  refine run_seq ?_
  refine run_seq ?_
  refine run_region ?_
  refine ov (xmove rfl) rfl rfl rfl ?_
  refine ov (xneq rfl rfl _ rfl) rfl rfl rfl ?_
  refine ods (fun c17 => ?_) (fun c17 => ?_)
  ·
    refine ops_nil ?_
    refine run_cond_t rfl ?_
    refine run_seq ?_
    refine run_region ?_
    refine ov (xmove rfl) rfl rfl rfl ?_
    refine ov (xassign rfl) rfl rfl rfl ?_
    refine ov (xassign rfl) rfl rfl rfl ?_
    refine ops_nil ?_
    refine run_ret Try.func47 (res2 rfl rfl rfl) ?_
    have he : leastR xs ys day = ([], (sealCode xs ys day)) := by rw [leastR, if_pos (by omega)]
    exact ⟨_, rfl, E, none, 0, 0, by rw [he], by rw [he]; exact Ow.none _ _ _ _ _ _⟩
  ·
    have hz_ := sealCode_zero (by omega : sealCode xs ys day = 0)
    have hr8_ := areRoles_len hz_.1
    refine ops_nil ?_
    refine run_cond_f rfl ?_
    refine run_skip ?_
    refine run_seq ?_
    refine run_seq ?_
    refine run_region ?_
    refine ov (xassign rfl) rfl rfl rfl ?_
    refine ops_nil ?_
    refine run_block ?_
    refine run_loop (ι := Nat × World) (fun x_ => match x_ with | (k, wr) => (Ext w wr) ∧ (w1.heap.size ≤ wr.heap.size) ∧ (k ≤ n + 1) ∧ (leastL (satN xs ys day) xs.length = firstI (fun n_ => (fewL (satN xs ys day) xs.length n_ 0 [])) (xs.length + 1 - k) k)) (fun x_ => match x_ with | (k, wr) => [(0, .slice p n c), (1, .slice q m d), (2, .int .i64 day), (9, .int .i64 (k : Int))]) (fun x_ => match x_ with | (k, wr) => wr) (fun x_ => match x_ with | (k, wr) => n + 1 - k) ?_ (0, w1) (⟨E, Nat.le_refl _, by omega, rfl⟩) ⟨rfl, rfl, rfl, rfl, trivial⟩ rfl
    intro i_ hI_ hback5
    obtain ⟨k, wr⟩ := i_
    obtain ⟨E, lz_wr, hk, hl⟩ := hI_
    try dsimp only
    have zr := E.size
    refine run_seq ?_
    refine run_seq ?_
    refine run_region ?_
    refine ov (xmove rfl) rfl rfl rfl ?_
    refine ov (xmove rfl) rfl rfl rfl ?_
    refine ov (xlen Try.underlying25 rfl) rfl rfl rfl ?_
    refine ov (xleq rfl rfl _ rfl) rfl rfl rfl ?_
    refine ods (fun c22 => ?_) (fun c22 => ?_)
    ·
      refine ops_nil ?_
      refine run_cond_t rfl ?_
      refine run_skip ?_
      refine run_seq ?_
      refine run_block ?_
      refine run_seq ?_
      refine run_region ?_
      refine ov (xmove rfl) rfl rfl rfl ?_
      refine ov (xmove rfl) rfl rfl rfl ?_
      refine ov (xmove rfl) rfl rfl rfl ?_
      refine obuild (cs := []) (sz := 1) Try.underlying49 inf9 rfl rfl (by decide) rfl rfl (by simp [Value.cells]) rfl rfl rfl ?_
      intro b2 w2 e2 hb2 hz2 O2
      have E := E.trans e2
      have G2 : Ow strc 1 9 w2 b2 (b2 + 1) (some ⟨b2, 0, none⟩) 0 0 ([] : List ByteArray) := Own.ow (by simpa [strc] using O2) rfl (by omega) (Nat.le_refl _) (by omega) (by intro x hx; rfl)
      refine ov (xmove rfl) rfl rfl rfl ?_
      refine oc (xcall Try.call80 rfl) rfl rfl rfl (l24Few_ok hz_.1 k w.heap.size _ _ _ [] 0 _ (by omega) (H.ext E).sn (K.ext E).sn (by intro i hi; cases hi) (by omega) (by simp only [List.length_nil]; omega) (Ow.wide (lo' := w.heap.size) (hi' := w2.heap.size) G2 (by omega) (by omega))) ?_
      rintro _ w3 ⟨e3, q31, m31, d31, rfl, G31⟩
      have z3 := e3.size
      have E := E.trans e3
      replace G2 := G2.ext e3
      refine ov (xmove rfl) rfl rfl rfl ?_
      refine ov (xextract rfl rfl) rfl rfl rfl ?_
      refine ov (xextract rfl rfl) rfl rfl rfl ?_
      refine ov (xassign rfl) rfl rfl rfl ?_
      refine ov (xassign rfl) rfl rfl rfl ?_
      refine ops_nil ?_
      refine run_seq ?_
      refine run_region ?_
      refine ov (xmove rfl) rfl rfl rfl ?_
      refine obs (fun c34 => ?_) (fun c34 => ?_)
      ·
        refine ops_nil ?_
        refine run_cond_t rfl ?_
        refine run_seq ?_
        refine run_region ?_
        refine ov (xmove rfl) rfl rfl rfl ?_
        refine ov (xassign rfl) rfl rfl rfl ?_
        refine ov (xassign rfl) rfl rfl rfl ?_
        refine ops_nil ?_
        refine run_ret Try.func47 (res2 rfl rfl rfl) ?_
        obtain ⟨y_, hy_⟩ := Option.isSome_iff_exists.1 c34
        have hl0 : leastL (satN xs ys day) xs.length = some y_ := by rw [hl, (by omega : xs.length + 1 - k = (xs.length + 1 - k - 1) + 1)]; exact firstI_at hy_
        rw [hy_] at G31
        have he : leastR xs ys day = (nmsL xs y_, 0) := by exact leastR_at (by omega) hl0
        exact ⟨_, rfl, E, _, _, _, by rw [he], by rw [he]; exact G31.wide (by omega) (by omega)⟩
      ·
        refine ops_nil ?_
        refine run_cond_f rfl ?_
        refine run_skip ?_
        refine run_inBlock ?_
        refine run_region ?_
        refine ov (xmove rfl) rfl rfl rfl ?_
        refine ov (xadd rfl rfl (by unfold I64; omega)) rfl rfl rfl ?_
        refine ov (xassign rfl) rfl rfl rfl ?_
        refine ops_nil ?_
        refine run_sub ?_ (hback5 (k + 1, w3) (⟨E, by omega, by omega, by rw [hl, (by omega : xs.length + 1 - k = (xs.length + 1 - (k + 1)) + 1)]; exact firstI_on (Option.isNone_iff_eq_none.1 (by simpa using c34))⟩) (by first | omega | (dsimp only; omega)))
        exact ⟨rfl, rfl, rfl, rfl, trivial⟩
    ·
      refine ops_nil ?_
      refine run_cond_f rfl ?_
      refine run_exit rfl ?_
      refine run_seq ?_
      refine run_region ?_
      refine ov (xassign rfl) rfl rfl rfl ?_
      refine ov (xassign rfl) rfl rfl rfl ?_
      refine ops_nil ?_
      refine run_ret Try.func47 (res2 rfl rfl rfl) ?_
      have hl0 : leastL (satN xs ys day) xs.length = none := by rw [hl, (by omega : xs.length + 1 - k = 0)]; rfl
      have he : leastR xs ys day = ([], 5) := by exact leastR_no (by omega) hl0
      exact ⟨_, rfl, E, none, 0, 0, by rw [he], by rw [he]; exact Ow.none _ _ _ _ _ _⟩
end Go.Proofs.Ytbihpggbabmebaa
