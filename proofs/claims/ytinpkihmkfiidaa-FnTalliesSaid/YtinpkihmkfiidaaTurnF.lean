/-
  Turning a vote: the walks. No condition beyond those written in each theorem.
-/
import Derived.Test.YtinpkihmkfiidaaPollP
import Derived.Test.YtinpkihmkfiidaaPolls2
import Derived.Test.YtinpkihmkfiidaaRg2
namespace Go.Proofs.Ytinpkihmkfiidaa
open Go.RowKit
set_option linter.unusedVariables false
set_option linter.unusedSimpArgs false
set_option linter.unusedSectionVars false
set_option maxRecDepth 4000

theorem turn_len (xs : List Question) (nd : Int) (vs : List (List Int)) (j q : Int) : (turnVote xs nd vs j q).1.2.length ≤ 12 ∧ tot kxInt64SS (turnVote xs nd vs j q).1.2 ≤ 1000 := by
  unfold turnVote
  split
  · simp [tot]
  · rename_i h1
    split
    · simp [tot]
    · obtain ⟨hp, _, _, _, _⟩ := pollCode_zero (by omega : pollCode xs nd vs j q = 0)
      have hl := isPoll_len hp
      have hf := isForm_len (isPoll_form hp)
      have hr := isPoll_row hp
      simp only [flipV_length]
      refine ⟨hl.2, ?_⟩
      have key : ∀ l : List (List Int), (∀ v ∈ l, v.length ≤ 10) → tot kxInt64SS l ≤ 10 * l.length := by
        intro l
        induction l with
        | nil => intro _; simp [tot]
        | cons v r ih =>
          intro h
          have h3 := ih (fun x hx => h x (List.mem_cons_of_mem _ hx))
          have h4 := h v List.mem_cons_self
          simp only [tot, List.length_cons, kxInt64SS]
          omega
      have h5 := key (flipV vs j.toNat q.toNat) (fun v m => by
        unfold flipV at m
        rcases List.mem_or_eq_of_mem_set m with m | rfl
        · have := hr v m; omega
        · rw [List.length_set]
          have hj : j.toNat < vs.length := by omega
          have := hr vs[j.toNat] (List.getElem_mem hj)
          simp only [List.getElem?_eq_getElem hj, Option.getD_some]
          omega)
      rw [flipV_length] at h5
      omega
theorem turn_list {vs : List (List Int)} {zs : List (X (List Int))} {j q : Nat} {h : Hd} (e : zs.map X.v = vs) (hj : j < zs.length) (hj2 : j < vs.length) (hq : q < vs[j].length) (hv : zs[j].v = vs[j]) {x : Int} (hx : x = 1 - vs[j][q]) : (zs.set j ⟨zs[j].v.set q x, h⟩).map X.v = flipV vs j q := by
  subst hx
  rw [flipV_at hj2 hq, List.map_set, e]
  simp only [hv]
theorem turn_1 {xs : List Question} {nd : Int} {vs : List (List Int)} {j q : Int} (h : isPoll xs nd vs = false) : turnVote xs nd vs j q = ((0, []), 1) := by
  have e : pollCode xs nd vs j q = 1 := by rw [pollCode, if_pos h]
  rw [turnVote, e, if_pos (by decide)]
theorem turn_2 {xs : List Question} {nd : Int} {vs : List (List Int)} {j q : Int} (hp : isPoll xs nd vs = true) (h : j < 0 ∨ (vs.length : Int) ≤ j ∨ q < 0 ∨ (xs.length : Int) ≤ q) : turnVote xs nd vs j q = ((0, []), 2) := by
  have e : pollCode xs nd vs j q = 2 := by rw [pollCode, if_neg (by simp [hp]), if_pos h]
  rw [turnVote, e, if_pos (by decide)]
theorem turn_c {xs : List Question} {nd : Int} {vs : List (List Int)} {j q : Int} (h : pollCode xs nd vs j q ≠ 0) : turnVote xs nd vs j q = ((0, []), pollCode xs nd vs j q) := by rw [turnVote, if_pos h]
theorem turn_5 {xs : List Question} {nd : Int} {vs : List (List Int)} {j q : Int} (hp : isPoll xs nd vs = true) (h : ¬ (j < 0 ∨ (vs.length : Int) ≤ j ∨ q < 0 ∨ (xs.length : Int) ≤ q)) (hj : j.toNat < vs.length) (hq : q.toNat < vs[j.toNat].length) (h5 : vs[j.toNat][q.toNat] < 0) : turnVote xs nd vs j q = ((0, []), 5) := by
  have e : pollCode xs nd vs j q = 0 := by rw [pollCode, if_neg (by simp [hp]), if_neg h]
  rw [turnVote, if_neg (by simp [e]), getV_eq hj, getI_at hq, if_pos h5]
theorem turn_0 {xs : List Question} {nd : Int} {vs : List (List Int)} {j q : Int} (hp : isPoll xs nd vs = true) (h : ¬ (j < 0 ∨ (vs.length : Int) ≤ j ∨ q < 0 ∨ (xs.length : Int) ≤ q)) (hj : j.toNat < vs.length) (hq : q.toNat < vs[j.toNat].length) (h5 : ¬ vs[j.toNat][q.toNat] < 0) : turnVote xs nd vs j q = ((nd, flipV vs j.toNat q.toNat), 0) := by
  have e : pollCode xs nd vs j q = 0 := by rw [pollCode, if_neg (by simp [hp]), if_neg h]
  rw [turnVote, if_neg (by simp [e]), getV_eq hj, getI_at hq, if_neg h5]

set_option maxHeartbeats 8000000 in
theorem TurnVote_ok (p : Option Addr) (n c : Nat) (xs : List Question) (nd : Int) (vs : List (List Int)) (p3 : Option Addr) (n3 c3 : Nat) (w : World) (H : Sl Question.cells 3 w p n c xs) (hx : ∀ x ∈ xs, x.Label.size ≤ 9223372036854775807) (Hv0 : SnInt64SS w p3 n3 c3 vs) (j q : Int) : Ret Try.prog 64 [.slice p n c, .agg #[.int .i64 nd, .slice p3 n3 c3], .int .i64 j, .int .i64 q] w (fun v w' => Ext w w' ∧ ∃ p n c, v = .tuple #[.agg #[.int .i64 (turnVote xs nd vs j q).1.1, .slice p n c], .int .i64 (turnVote xs nd vs j q).2] ∧ OnInt64SS w' w.heap.size w'.heap.size p n c (turnVote xs nd vs j q).1.2) := by
  refine ret_of_run (N := 80) Try.func64 rfl rfl rfl ?_
  have hn := H.len
  have hn6 := H.n64
  obtain ⟨hd, Hv⟩ := Hv0
  have hn3 := Hv.len
  have hv6 := Hv.n64
  have E : Ext w w := Ext.refl w
  refine run_seq ?_
  refine run_region ?_
  refine obox rfl rfl rfl ?_
  intro b1 w1 e1 hb1 hz1 O1
  have E := E.trans e1
  replace O1 : Own w1 b1 [.int .i64 nd, .slice p3 n3 c3] 41 := O1
  refine oalloc Try.zeroValue41 rfl rfl ?_
  intro b2 w2 e2 hb2 hz2 O2
  have E := E.trans e2
  replace O1 := O1.ext e2
  replace O2 : Own w2 b2 [.int .i64 0, .slice none 0 0] 41 := O2
  refine ov (xassign rfl) rfl rfl rfl ?_
  refine ops_nil ?_
  refine run_seq ?_
  refine run_block ?_
  refine run_seq ?_
  refine run_region ?_
  refine ov (xmove rfl) rfl rfl rfl ?_
  refine ov (v := .agg #[.int .i64 nd, .slice p3 n3 c3]) (xloadN Try.isAgg41 Try.sizeOf41 rfl (O1.cells) rfl) rfl rfl rfl ?_
  refine oc (xcall Try.call39 rfl) rfl rfl rfl (IsPoll_ok _ _ _ _ _ _ _ _ _ _ (H.ext E) (by assumption) (Hv.ext E).sn) ?_
  rintro _ w3 ⟨rfl, e3⟩
  have z3 := e3.size
  have E := E.trans e3
  replace O1 := O1.ext e3
  replace O2 := O2.ext e3
  refine obs (fun c16 => ?_) (fun c16 => ?_)
  ·
    have hff := isPoll_form c16
    have hfl := isForm_len hff
    have hfr := isPoll_row c16
    have hfv := isPoll_len c16
    have hpp := c16
    refine ov (xnot rfl) rfl rfl rfl ?_
    refine ov (xassign rfl) rfl rfl rfl ?_
    refine ops_nil ?_
    refine run_cond_f rfl ?_
    refine run_seq ?_
    refine run_region ?_
    refine ov (xmove rfl) rfl rfl rfl ?_
    refine ov (xfieldAddr fo41f1 rfl) rfl rfl rfl ?_
    refine ov (v := .slice p3 n3 c3) (xload1 Try.isAgg36 rfl (O1.cells) rfl) rfl rfl rfl ?_
    refine ov (xlen Try.underlying36 rfl) rfl rfl rfl ?_
    refine oc (xcall Try.call116 rfl) rfl rfl rfl (at_ok (j) ((n3 : Int)) _) ?_
    rintro _ w_ ⟨rfl, hw_⟩
    replace hw_ := hw_.symm
    subst hw_
    refine obs (fun c24 => ?_) (fun c24 => ?_)
    ·
      refine ov (xnot rfl) rfl rfl rfl ?_
      refine ov (xmove rfl) rfl rfl rfl ?_
      refine ov (xmove rfl) rfl rfl rfl ?_
      refine ov (xmove rfl) rfl rfl rfl ?_
      refine ov (xlen Try.underlying25 rfl) rfl rfl rfl ?_
      refine oc (xcall Try.call116 rfl) rfl rfl rfl (at_ok (q) ((n : Int)) _) ?_
      rintro _ w_ ⟨rfl, hw_⟩
      replace hw_ := hw_.symm
      subst hw_
      refine obs (fun c30 => ?_) (fun c30 => ?_)
      ·
        refine ov (xnot rfl) rfl rfl rfl ?_
        refine ov (xpick_f rfl rfl) rfl rfl rfl ?_
        refine ov (xassign rfl) rfl rfl rfl ?_
        refine ops_nil ?_
        refine run_cond_f rfl ?_
        refine run_seq ?_
        refine run_region ?_
        simp only [Bool.and_eq_true, decide_eq_true_eq] at c24 c30
        have hjv : j.toNat < vs.length := by omega
        have hrj := hfr vs[j.toNat] (List.getElem_mem hjv)
        have hqv : q.toNat < vs[j.toNat].length := by omega
        have hva := areAns_at (isPoll_votes hpp hjv) (i := q.toNat) hqv
        have hij := (Hv.inner (i := j.toNat) hjv).len
        simp only [innInt64SS] at hij
        have hnr : ¬ (j < 0 ∨ (vs.length : Int) ≤ j ∨ q < 0 ∨ (xs.length : Int) ≤ q) := by omega
        refine ov (xfieldAddr fo41f1 rfl) rfl rfl rfl ?_
        refine ov (v := .slice p3 n3 c3) (xload1 Try.isAgg36 rfl (O1.cells) rfl) rfl rfl rfl ?_
        refine ov (xmove rfl) rfl rfl rfl ?_
        have h38 := (Hv.ext E).at (i := j.toNat) (by omega)
        refine ov (xindexN (i := j.toNat) Try.underlying36 Try.sizeOf31 rfl rfl (by omega) ((Hv.ext E).p (i := j.toNat) (by omega)) (by have := (Hv.ext E).len; omega)) rfl rfl rfl ?_
        refine ov (v := .slice (hd j.toNat).p (hd j.toNat).n (hd j.toNat).c) (xloadz Try.isAgg31 rfl (h38) rfl) rfl rfl rfl ?_
        refine ov (xmove rfl) rfl rfl rfl ?_
        have h41 := ((show Sl i64c 1 _ _ _ _ vs[j.toNat] from (Hv.inner (i := j.toNat) (by omega)).ext E)).at (i := q.toNat) (by omega)
        refine ov (xindexN (i := q.toNat) Try.underlying31 Try.sizeOf2 rfl rfl (by omega) (((show Sl i64c 1 _ _ _ _ vs[j.toNat] from (Hv.inner (i := j.toNat) (by omega)).ext E)).p (i := q.toNat) (by omega)) (by have := ((show Sl i64c 1 _ _ _ _ vs[j.toNat] from (Hv.inner (i := j.toNat) (by omega)).ext E)).len; omega)) rfl rfl rfl ?_
        refine ov (v := .int .i64 vs[j.toNat][q.toNat]) (xloadz Try.isAgg2 rfl (h41) rfl) rfl rfl rfl ?_
        refine ov (xeql rfl rfl _ rfl) rfl rfl rfl ?_
        refine ods (fun c43 => ?_) (fun c43 => ?_)
        ·
          refine ov (xassign rfl) rfl rfl rfl ?_
          refine ops_nil ?_
          refine run_cond_t rfl ?_
          refine run_seq ?_
          refine run_region ?_
          refine ov (xbuild (vs := []) (cells := #[.int .i64 0, .slice none 0 0]) rfl (by kernel_rfl)) rfl rfl rfl ?_
          refine ostoreN (vs := _) Try.sizeOf41 rfl rfl O2 rfl (by simp) (by simp [Value.oneCell']) rfl ?_
          intro w4 on4 O4
          have hz4 := on4.size
          have E := on4.ext E (by omega)
          replace O1 := on4.own O1 (by omega)
          replace O4 : Own w4 b2 [.int .i64 0, .slice none 0 0] 41 := O4
          refine ov (xassign rfl) rfl rfl rfl ?_
          refine ops_nil ?_
          refine run_ret Try.func64 (resc2 rfl rfl (run_loadVar_cells Try.isAgg41 Try.sizeOf41 O4.cells rfl) rfl) ?_
          have he := turn_5 hpp hnr hjv hqv (by omega)
          exact ⟨_, rfl, E, none, 0, 0, by rw [he], by rw [he]; exact On.none _ _ _ _ _ _ _ _ _ _⟩
        ·
          refine ov (xassign rfl) rfl rfl rfl ?_
          refine ops_nil ?_
          refine run_cond_f rfl ?_
          refine run_skip ?_
          refine run_inBlock ?_
          refine run_seq ?_
          refine run_region ?_
          refine ov (xfieldAddr fo41f0 rfl) rfl rfl rfl ?_
          refine ov (v := .int .i64 nd) (xload1 Try.isAgg2 rfl (O1.cells) rfl) rfl rfl rfl ?_
          refine ov (xbuild (vs := [.int .i64 nd]) (cells := #[.int .i64 nd, .slice none 0 0]) rfl (by kernel_rfl)) rfl rfl rfl ?_
          refine oalloc Try.zeroValue41 rfl rfl ?_
          intro b4 w4 e4 hb4 hz4 O4
          have E := E.trans e4
          replace O1 := O1.ext e4
          replace O2 := O2.ext e4
          replace O4 : Own w4 b4 [.int .i64 0, .slice none 0 0] 41 := O4
          refine ostoreN (vs := _) Try.sizeOf41 rfl rfl O4 rfl (by simp) (by simp [Value.oneCell']) rfl ?_
          intro w5 on5 O5
          have hz5 := on5.size
          have E := on5.ext E (by omega)
          replace O1 := on5.own O1 (by omega)
          replace O2 := on5.own O2 (by omega)
          replace O5 : Own w5 b4 [.int .i64 nd, .slice none 0 0] 41 := O5
          refine ops_nil ?_
          refine run_seq ?_
          refine run_seq ?_
          refine run_region ?_
          refine ov (xfieldAddr fo41f1 rfl) rfl rfl rfl ?_
          refine ov (v := .slice p3 n3 c3) (xload1 Try.isAgg36 rfl (O1.cells) rfl) rfl rfl rfl ?_
          refine ov (xlen Try.underlying36 rfl) rfl rfl rfl ?_
          refine ov (xmove rfl) rfl rfl rfl ?_
          refine ops_nil ?_
          refine run_block ?_
          refine run_loop (ι := Nat × Option Addr × Nat × Nat × List (X (List Int)) × World) (fun x_ => match x_ with | (k, qv, mv, cv, zs, wr) => (Ext w wr) ∧ (Own wr b1 ([.int .i64 nd, .slice p3 n3 c3]) 41) ∧ (Own wr b2 ([.int .i64 0, .slice none 0 0]) 41) ∧ (Own wr b4 ([.int .i64 nd, .slice qv mv cv]) 41) ∧ (NOw cellsInt64SS 1 31 innInt64SS i64c 1 2 wr w.heap.size wr.heap.size qv mv cv zs) ∧ (w5.heap.size ≤ wr.heap.size) ∧ (k ≤ n3) ∧ (mv = k) ∧ (zs.map X.v = vs.take k)) (fun x_ => match x_ with | (k, qv, mv, cv, zs, wr) => [(2, .int .i64 j), (3, .int .i64 q), (8, .pointer (some ⟨b2, 0, none⟩)), (10, .pointer (some ⟨b4, 0, none⟩)), (49, .slice p3 n3 c3), (50, .int .i64 (n3 : Int)), (51, .int .i64 (k : Int))]) (fun x_ => match x_ with | (k, qv, mv, cv, zs, wr) => wr) (fun x_ => match x_ with | (k, qv, mv, cv, zs, wr) => n3 - k) ?_ (0, none, 0, 0, [], w5) (⟨E, O1, O2, O5, NOw.none _ _ _ _ _ _ _ _ _ _, Nat.le_refl _, by omega, rfl, rfl⟩) ⟨rfl, rfl, rfl, rfl, rfl, rfl, rfl, trivial⟩ rfl
          intro i_ hI_ hback9
          obtain ⟨k, qv, mv, cv, zs, wr⟩ := i_
          obtain ⟨E, O_b1, O_b2, O_b4, GV, lz_wr, hk, hmv, hz⟩ := hI_
          try dsimp only
          have zr := E.size
          have lt_b1 := O_b1.lt
          have lt_b2 := O_b2.lt
          have lt_b4 := O_b4.lt
          refine run_seq ?_
          refine run_region ?_
          refine ov (xlss rfl rfl _ rfl) rfl rfl rfl ?_
          refine ods (fun c52 => ?_) (fun c52 => ?_)
          ·
            have hrk := hfr vs[k] (List.getElem_mem (by omega))
            have hik := (Hv.inner (i := k) (by omega)).len
            simp only [innInt64SS] at hik
            refine ops_nil ?_
            refine run_seq ?_
            refine run_cond_t rfl ?_
            refine run_skip ?_
            refine run_seq ?_
            refine run_block ?_
            refine run_seq ?_
            refine run_region ?_
            have h53 := (Hv.ext E).at (i := k) (by omega)
            refine ov (xindexN (i := k) Try.underlying36 Try.sizeOf31 rfl rfl rfl ((Hv.ext E).p (i := k) (by omega)) (by have := (Hv.ext E).len; omega)) rfl rfl rfl ?_
            refine ov (v := .slice (hd k).p (hd k).n (hd k).c) (xloadz Try.isAgg31 rfl (h53) rfl) rfl rfl rfl ?_
            refine ov (xassign rfl) rfl rfl rfl ?_
            refine ops_nil ?_
            have RE := Ext.refl w
            have RO_b1 := O_b1
            have RO_b2 := O_b2
            have RO_b4 := O_b4
            refine run_heldE E (ι := Option Addr × Nat × List (X (List Int))) (fun x_ w' => match x_ with | (qx, dx, zz) => Ext w w' ∧ wr.heap.size ≤ w'.heap.size ∧ NOw cellsInt64SS 1 31 innInt64SS i64c 1 2 w' w.heap.size w'.heap.size qx (mv + 1) dx zz ∧ zz.map X.v = vs.take (k + 1) ∧ Own w' b1 [.int .i64 nd, .slice p3 n3 c3] 41 ∧ Own w' b2 [.int .i64 0, .slice none 0 0] 41 ∧ Own w' b4 [.int .i64 nd, .slice qx (mv + 1) dx] 41) (fun x_ => match x_ with | (qx, dx, zz) => [(2, .int .i64 j), (3, .int .i64 q), (8, .pointer (some ⟨b2, 0, none⟩)), (10, .pointer (some ⟨b4, 0, none⟩)), (12, .slice (hd k).p (hd k).n (hd k).c), (49, .slice p3 n3 c3), (50, .int .i64 (n3 : Int)), (51, .int .i64 (k : Int)), (52, .bool true), (54, .slice (hd k).p (hd k).n (hd k).c)]) (by kernel_rfl) ?_ ?_
            · intro w0_ F
              have z0_ := F.size
              have E := E.trans F
              replace GV := GV.ext F
              replace O_b1 := O_b1.ext F
              replace O_b2 := O_b2.ext F
              replace O_b4 := O_b4.ext F
              replace F := E
              refine h_take 0 rfl (by kernel_rfl) (by kernel_rfl) (by kernel_rfl) (fun w' x_ => xfieldAddr fo41f1 rfl) rfl rfl rfl F ?_
              refine h_take 2 rfl (by kernel_rfl) (by kernel_rfl) (by kernel_rfl) (fun w' x_ => xmove rfl) rfl rfl rfl F ?_
              refine h_ready (rs := [1, 3]) (by kernel_rfl) (by decide) ⟨?_, ?_, trivial⟩
              ·
                refine hs_val (v := .slice qv mv cv) rfl (xload1 Try.isAgg36 rfl (O_b4.cells) rfl) rfl rfl rfl F ?_
                refine h_ready (rs := [3]) (by kernel_rfl) (by decide) ⟨?_, trivial⟩
                ·
                  refine hs_call rfl (xcall Try.call122 rfl) rfl rfl rfl (cloneInt64_ok _ _ _ _ _ ((show Sl i64c 1 _ _ _ _ vs[k] from (Hv.inner (i := k) (by omega)).ext E)) ((show Sl i64c 1 _ _ _ _ vs[k] from (Hv.inner (i := k) (by omega)).ext E)).nil (by omega)) ?_
                  rintro _ w6 ⟨e6, q58, c58_, rfl, G58⟩
                  have z6 := e6.size
                  have E := E.trans e6
                  replace GV := GV.ext e6
                  replace O_b1 := O_b1.ext e6
                  replace O_b2 := O_b2.ext e6
                  replace O_b4 := O_b4.ext e6
                  have F := F.trans e6
                  refine ⟨F, ?_⟩
                  refine h_ready (rs := [4]) (by kernel_rfl) (by decide) ⟨?_, trivial⟩
                  ·
                    refine hs_build (len := 1) (vs := [.slice q58 (hd k).n c58_]) (cs := [.slice q58 (hd k).n c58_]) (sz := 1) Try.underlying36 inf31 rfl rfl (by decide) (by rfl) (by rfl) (by simp [Value.cells]) rfl F rfl rfl rfl ?_
                    intro b7 w7 e7 hb7 hz7 O7
                    have E := E.trans e7
                    replace GV := GV.ext e7
                    replace G58 := G58.ext e7
                    replace O_b1 := O_b1.ext e7
                    replace O_b2 := O_b2.ext e7
                    replace O_b4 := O_b4.ext e7
                    have F := F.trans e7
                    refine h_ready (rs := [5]) (by kernel_rfl) (by decide) ⟨?_, trivial⟩
                    ·
                      refine hs_appNT (bytes := 24) (nm := (mv + 1)) (z := (⟨vs[k], ⟨q58, (hd k).n, c58_⟩⟩ : X (List Int))) GV (by decide) (by rfl) (by rfl) elem31 (Own.sl1 (y := ((⟨vs[k], ⟨q58, (hd k).n, c58_⟩⟩ : X (List Int)) : X _)) O7) (by intro h; cases h) rfl (by simp [xc, cellsInt64SS, Value.oneCell']) G58 (by omega) (by omega) (by omega) (by omega) (by omega) (by omega) (by omega) rfl F (by omega) rfl rfl rfl ?_
                      intro p8 c8_ w8 m8 k8 G8
                      have hz8 := m8.size
                      have E := m8.toExt E (by omega)
                      have F := m8.toExt F (by omega)
                      replace G58 := (by first | exact G58.off m8 (by omega) | exact G58.offP GV.o k8 (by decide))
                      replace O_b1 := (by first | exact m8.own O_b1 (by omega) | exact k8.off_own O_b1 (GV.o.neT O_b1 (by decide)))
                      replace O_b2 := (by first | exact m8.own O_b2 (by omega) | exact k8.off_own O_b2 (GV.o.neT O_b2 (by decide)))
                      replace O_b4 := (by first | exact m8.own O_b4 (by omega) | exact k8.off_own O_b4 (GV.o.neT O_b4 (by decide)))
                      refine h_take 6 rfl (by kernel_rfl) (by kernel_rfl) (by kernel_rfl) (fun w' x_ => xfieldAddr fo41f1 rfl) rfl rfl rfl F ?_
                      refine h_ready (rs := [7]) (by kernel_rfl) (by decide) ⟨?_, trivial⟩
                      ·
                        refine hs_store1 Try.sizeOf36 rfl rfl O_b4 (by simp) rfl F (by omega) rfl rfl ?_
                        intro w9 on9 O9
                        have hz9 := on9.size
                        have E := on9.ext E (by omega)
                        replace G58 := G58.onlyT O_b4 (by decide) on9
                        replace G8 := G8.onlyT O_b4 (by decide) on9
                        replace O_b1 := on9.own O_b1 (by omega)
                        replace O_b2 := on9.own O_b2 (by omega)
                        have F := on9.ext F (by omega)
                        replace O9 : Own w9 b4 [.int .i64 nd, .slice p8 (mv + 1) c8_] 41 := O9
                        refine h_done (by kernel_rfl) ?_
                        intro a_ ha_
                        exact ⟨(p8, c8_, _), ⟨F, ⟨by omega, G8.wide (by omega) (by omega), by rw [List.map_append, hz, List.take_succ_eq_append_getElem (by omega)]; rfl, O_b1, O_b2, O9⟩⟩, ha_.sub ⟨rfl, rfl, rfl, rfl, rfl, rfl, rfl, rfl, rfl, rfl, trivial⟩⟩
              ·
                refine hs_call rfl (xcall Try.call122 rfl) rfl rfl rfl (cloneInt64_ok _ _ _ _ _ ((show Sl i64c 1 _ _ _ _ vs[k] from (Hv.inner (i := k) (by omega)).ext E)) ((show Sl i64c 1 _ _ _ _ vs[k] from (Hv.inner (i := k) (by omega)).ext E)).nil (by omega)) ?_
                rintro _ w6 ⟨e6, q58, c58_, rfl, G58⟩
                have z6 := e6.size
                have E := E.trans e6
                replace GV := GV.ext e6
                replace O_b1 := O_b1.ext e6
                replace O_b2 := O_b2.ext e6
                replace O_b4 := O_b4.ext e6
                have F := F.trans e6
                refine ⟨F, ?_⟩
                refine h_ready (rs := [1, 4]) (by kernel_rfl) (by decide) ⟨?_, ?_, trivial⟩
                ·
                  refine hs_val (v := .slice qv mv cv) rfl (xload1 Try.isAgg36 rfl (O_b4.cells) rfl) rfl rfl rfl F ?_
                  refine h_ready (rs := [4]) (by kernel_rfl) (by decide) ⟨?_, trivial⟩
                  ·
                    refine hs_build (len := 1) (vs := [.slice q58 (hd k).n c58_]) (cs := [.slice q58 (hd k).n c58_]) (sz := 1) Try.underlying36 inf31 rfl rfl (by decide) (by rfl) (by rfl) (by simp [Value.cells]) rfl F rfl rfl rfl ?_
                    intro b7 w7 e7 hb7 hz7 O7
                    have E := E.trans e7
                    replace GV := GV.ext e7
                    replace G58 := G58.ext e7
                    replace O_b1 := O_b1.ext e7
                    replace O_b2 := O_b2.ext e7
                    replace O_b4 := O_b4.ext e7
                    have F := F.trans e7
                    refine h_ready (rs := [5]) (by kernel_rfl) (by decide) ⟨?_, trivial⟩
                    ·
                      refine hs_appNT (bytes := 24) (nm := (mv + 1)) (z := (⟨vs[k], ⟨q58, (hd k).n, c58_⟩⟩ : X (List Int))) GV (by decide) (by rfl) (by rfl) elem31 (Own.sl1 (y := ((⟨vs[k], ⟨q58, (hd k).n, c58_⟩⟩ : X (List Int)) : X _)) O7) (by intro h; cases h) rfl (by simp [xc, cellsInt64SS, Value.oneCell']) G58 (by omega) (by omega) (by omega) (by omega) (by omega) (by omega) (by omega) rfl F (by omega) rfl rfl rfl ?_
                      intro p8 c8_ w8 m8 k8 G8
                      have hz8 := m8.size
                      have E := m8.toExt E (by omega)
                      have F := m8.toExt F (by omega)
                      replace G58 := (by first | exact G58.off m8 (by omega) | exact G58.offP GV.o k8 (by decide))
                      replace O_b1 := (by first | exact m8.own O_b1 (by omega) | exact k8.off_own O_b1 (GV.o.neT O_b1 (by decide)))
                      replace O_b2 := (by first | exact m8.own O_b2 (by omega) | exact k8.off_own O_b2 (GV.o.neT O_b2 (by decide)))
                      replace O_b4 := (by first | exact m8.own O_b4 (by omega) | exact k8.off_own O_b4 (GV.o.neT O_b4 (by decide)))
                      refine h_take 6 rfl (by kernel_rfl) (by kernel_rfl) (by kernel_rfl) (fun w' x_ => xfieldAddr fo41f1 rfl) rfl rfl rfl F ?_
                      refine h_ready (rs := [7]) (by kernel_rfl) (by decide) ⟨?_, trivial⟩
                      ·
                        refine hs_store1 Try.sizeOf36 rfl rfl O_b4 (by simp) rfl F (by omega) rfl rfl ?_
                        intro w9 on9 O9
                        have hz9 := on9.size
                        have E := on9.ext E (by omega)
                        replace G58 := G58.onlyT O_b4 (by decide) on9
                        replace G8 := G8.onlyT O_b4 (by decide) on9
                        replace O_b1 := on9.own O_b1 (by omega)
                        replace O_b2 := on9.own O_b2 (by omega)
                        have F := on9.ext F (by omega)
                        replace O9 : Own w9 b4 [.int .i64 nd, .slice p8 (mv + 1) c8_] 41 := O9
                        refine h_done (by kernel_rfl) ?_
                        intro a_ ha_
                        exact ⟨(p8, c8_, _), ⟨F, ⟨by omega, G8.wide (by omega) (by omega), by rw [List.map_append, hz, List.take_succ_eq_append_getElem (by omega)]; rfl, O_b1, O_b2, O9⟩⟩, ha_.sub ⟨rfl, rfl, rfl, rfl, rfl, rfl, rfl, rfl, rfl, rfl, trivial⟩⟩
                ·
                  refine hs_build (len := 1) (vs := [.slice q58 (hd k).n c58_]) (cs := [.slice q58 (hd k).n c58_]) (sz := 1) Try.underlying36 inf31 rfl rfl (by decide) (by rfl) (by rfl) (by simp [Value.cells]) rfl F rfl rfl rfl ?_
                  intro b7 w7 e7 hb7 hz7 O7
                  have E := E.trans e7
                  replace GV := GV.ext e7
                  replace G58 := G58.ext e7
                  replace O_b1 := O_b1.ext e7
                  replace O_b2 := O_b2.ext e7
                  replace O_b4 := O_b4.ext e7
                  have F := F.trans e7
                  refine h_ready (rs := [1]) (by kernel_rfl) (by decide) ⟨?_, trivial⟩
                  ·
                    refine hs_val (v := .slice qv mv cv) rfl (xload1 Try.isAgg36 rfl (O_b4.cells) rfl) rfl rfl rfl F ?_
                    refine h_ready (rs := [5]) (by kernel_rfl) (by decide) ⟨?_, trivial⟩
                    ·
                      refine hs_appNT (bytes := 24) (nm := (mv + 1)) (z := (⟨vs[k], ⟨q58, (hd k).n, c58_⟩⟩ : X (List Int))) GV (by decide) (by rfl) (by rfl) elem31 (Own.sl1 (y := ((⟨vs[k], ⟨q58, (hd k).n, c58_⟩⟩ : X (List Int)) : X _)) O7) (by intro h; cases h) rfl (by simp [xc, cellsInt64SS, Value.oneCell']) G58 (by omega) (by omega) (by omega) (by omega) (by omega) (by omega) (by omega) rfl F (by omega) rfl rfl rfl ?_
                      intro p8 c8_ w8 m8 k8 G8
                      have hz8 := m8.size
                      have E := m8.toExt E (by omega)
                      have F := m8.toExt F (by omega)
                      replace G58 := (by first | exact G58.off m8 (by omega) | exact G58.offP GV.o k8 (by decide))
                      replace O_b1 := (by first | exact m8.own O_b1 (by omega) | exact k8.off_own O_b1 (GV.o.neT O_b1 (by decide)))
                      replace O_b2 := (by first | exact m8.own O_b2 (by omega) | exact k8.off_own O_b2 (GV.o.neT O_b2 (by decide)))
                      replace O_b4 := (by first | exact m8.own O_b4 (by omega) | exact k8.off_own O_b4 (GV.o.neT O_b4 (by decide)))
                      refine h_take 6 rfl (by kernel_rfl) (by kernel_rfl) (by kernel_rfl) (fun w' x_ => xfieldAddr fo41f1 rfl) rfl rfl rfl F ?_
                      refine h_ready (rs := [7]) (by kernel_rfl) (by decide) ⟨?_, trivial⟩
                      ·
                        refine hs_store1 Try.sizeOf36 rfl rfl O_b4 (by simp) rfl F (by omega) rfl rfl ?_
                        intro w9 on9 O9
                        have hz9 := on9.size
                        have E := on9.ext E (by omega)
                        replace G58 := G58.onlyT O_b4 (by decide) on9
                        replace G8 := G8.onlyT O_b4 (by decide) on9
                        replace O_b1 := on9.own O_b1 (by omega)
                        replace O_b2 := on9.own O_b2 (by omega)
                        have F := on9.ext F (by omega)
                        replace O9 : Own w9 b4 [.int .i64 nd, .slice p8 (mv + 1) c8_] 41 := O9
                        refine h_done (by kernel_rfl) ?_
                        intro a_ ha_
                        exact ⟨(p8, c8_, _), ⟨F, ⟨by omega, G8.wide (by omega) (by omega), by rw [List.map_append, hz, List.take_succ_eq_append_getElem (by omega)]; rfl, O_b1, O_b2, O9⟩⟩, ha_.sub ⟨rfl, rfl, rfl, rfl, rfl, rfl, rfl, rfl, rfl, rfl, trivial⟩⟩
            · intro x_
              obtain ⟨qx, dx, zz⟩ := x_
              rintro w6 ⟨e6, hzx, GZ, hzz, OX1, OX2, OX4⟩
              have z6 := e6.size
              replace E := e6
              refine run_inBlock ?_
              refine run_region ?_
              refine ov (xadd rfl rfl (by unfold I64; omega)) rfl rfl rfl ?_
              refine ov (xmove rfl) rfl rfl rfl ?_
              refine ops_nil ?_
              refine run_sub ?_ (hback9 (k + 1, qx, (mv + 1), dx, zz, w6) (⟨E, OX1, OX2, OX4, GZ.wide (by omega) (by omega), by omega, by omega, by omega, hzz⟩) (by first | omega | (dsimp only; omega)))
              exact ⟨rfl, rfl, rfl, rfl, rfl, rfl, rfl, trivial⟩
          ·
            refine ops_nil ?_
            refine run_seq ?_
            refine run_cond_f rfl ?_
            refine run_exit rfl ?_
            refine run_seq ?_
            refine run_tail 16 (by kernel_rfl) (by kernel_rfl) ?_
            intro w6 e6
            have z6 := e6.size
            have E := E.trans e6
            replace GV := GV.ext e6
            replace O_b1 := O_b1.ext e6
            replace O_b2 := O_b2.ext e6
            replace O_b4 := O_b4.ext e6
            have hkn : k = n3 := by omega
            have hz2 : zs.map X.v = vs := by rw [hz, hkn, hn3, List.take_length]
            have lGV := GV.o.len
            have hzl : zs.length = vs.length := by rw [← hz2, List.length_map]
            have hjz : j.toNat < zs.length := by omega
            have hzj : zs[j.toNat].v = vs[j.toNat] := by simp only [← hz2, List.getElem_map]
            have hIl := (GV.i.i zs[j.toNat] (List.getElem_mem hjz)).len
            simp only [innInt64SS, hzj] at hIl
            have hqz : q.toNat < zs[j.toNat].v.length := by rw [hzj]; exact hqv
            have hzq : zs[j.toNat].v[q.toNat] = vs[j.toNat][q.toNat] := by simp only [hzj]
            refine stv (xfieldAddr fo41f1 rfl) rfl rfl rfl ?_
            refine stv (v := .slice qv mv cv) (xload1 Try.isAgg36 rfl (O_b4.cells) rfl) rfl rfl rfl ?_
            refine stv (xmove rfl) rfl rfl rfl ?_
            have h66 := (GV.o.sl).at (i := j.toNat) (by omega)
            refine stv (xindexN (i := j.toNat) Try.underlying36 Try.sizeOf31 rfl rfl (by omega) ((GV.o.sl).p (i := j.toNat) (by omega)) (by have := (GV.o.sl).len; omega)) rfl rfl rfl ?_
            refine stv (v := .slice zs[j.toNat].h.p zs[j.toNat].h.n zs[j.toNat].h.c) (xloadz Try.isAgg31 rfl (h66) rfl) rfl rfl rfl ?_
            refine stv (xmove rfl) rfl rfl rfl ?_
            refine stv (xfieldAddr fo41f1 rfl) rfl rfl rfl ?_
            refine stv (v := .slice qv mv cv) (xload1 Try.isAgg36 rfl (O_b4.cells) rfl) rfl rfl rfl ?_
            refine stv (xmove rfl) rfl rfl rfl ?_
            have h72 := (GV.o.sl).at (i := j.toNat) (by omega)
            refine stv (xindexN (i := j.toNat) Try.underlying36 Try.sizeOf31 rfl rfl (by omega) ((GV.o.sl).p (i := j.toNat) (by omega)) (by have := (GV.o.sl).len; omega)) rfl rfl rfl ?_
            refine stv (v := .slice zs[j.toNat].h.p zs[j.toNat].h.n zs[j.toNat].h.c) (xloadz Try.isAgg31 rfl (h72) rfl) rfl rfl rfl ?_
            refine stv (xmove rfl) rfl rfl rfl ?_
            have h75 := ((GV.i.i zs[j.toNat] (List.getElem_mem hjz)).sl).at (i := q.toNat) hqz
            refine stv (xindexN (i := q.toNat) Try.underlying31 Try.sizeOf2 rfl rfl (by omega) (((GV.i.i zs[j.toNat] (List.getElem_mem hjz)).sl).p (i := q.toNat) hqz) (by have := ((GV.i.i zs[j.toNat] (List.getElem_mem hjz)).sl).len; omega)) rfl rfl rfl ?_
            refine stv (v := .int .i64 zs[j.toNat].v[q.toNat]) (xloadz Try.isAgg2 rfl (h75) rfl) rfl rfl rfl ?_
            refine stv (xsub rfl rfl (by unfold I64; omega)) rfl rfl rfl ?_
            have h78 := ((GV.i.i zs[j.toNat] (List.getElem_mem hjz)).sl).at (i := q.toNat) hqz
            refine stv (xindexN (i := q.toNat) Try.underlying31 Try.sizeOf2 rfl rfl (by omega) (((GV.i.i zs[j.toNat] (List.getElem_mem hjz)).sl).p (i := q.toNat) hqz) (by have := ((GV.i.i zs[j.toNat] (List.getElem_mem hjz)).sl).len; omega)) rfl rfl rfl ?_
            refine st_storeNI1 (j := j.toNat) (i := q.toNat) (v' := zs[j.toNat].v.set q.toNat (1 - zs[j.toNat].v[q.toNat])) (z := (1 - zs[j.toNat].v[q.toNat])) Try.sizeOf2 GV (by decide) hjz (by omega) rfl rfl rfl rfl rfl rfl rfl ?_
            intro w7 m7 k7 g7
            have z7 := m7.size
            have E := m7.toExt E (by omega)
            replace O_b1 := k7.off_own O_b1 ((GV.i.i zs[j.toNat] (List.getElem_mem hjz)).neT O_b1 (by decide))
            replace O_b2 := k7.off_own O_b2 ((GV.i.i zs[j.toNat] (List.getElem_mem hjz)).neT O_b2 (by decide))
            replace O_b4 := k7.off_own O_b4 ((GV.i.i zs[j.toNat] (List.getElem_mem hjz)).neT O_b4 (by decide))
            replace GV := g7
            refine run_seq ?_
            refine run_region ?_
            refine ov (v := .agg #[.int .i64 nd, .slice qv mv cv]) (xloadN Try.isAgg41 Try.sizeOf41 rfl (O_b4.cells) rfl) rfl rfl rfl ?_
            refine ostoreN (vs := _) Try.sizeOf41 rfl rfl O_b2 rfl (by simp) (by simp [Value.oneCell']) rfl ?_
            intro w8 on8 O8
            have hz8 := on8.size
            have E := on8.ext E (by omega)
            replace GV := GV.onlyT O_b2 (by decide) on8
            replace O_b1 := on8.own O_b1 (by omega)
            replace O_b4 := on8.own O_b4 (by omega)
            replace O8 : Own w8 b2 [.int .i64 nd, .slice qv mv cv] 41 := O8
            refine ov (xassign rfl) rfl rfl rfl ?_
            refine ops_nil ?_
            refine run_ret Try.func64 (resc2 rfl rfl (run_loadVar_cells Try.isAgg41 Try.sizeOf41 O8.cells rfl) rfl) ?_
            have he := turn_0 hpp hnr hjv hqv (by omega)
            exact ⟨_, rfl, E, _, _, _, by rw [he], by rw [he]; exact ⟨_, turn_list hz2 hjz hjv hqv hzj (by omega), GV.wide (by omega) (by omega)⟩⟩
      ·
        refine ov (xnot rfl) rfl rfl rfl ?_
        refine ov (xpick_f rfl rfl) rfl rfl rfl ?_
        refine ov (xassign rfl) rfl rfl rfl ?_
        refine ops_nil ?_
        refine run_cond_t rfl ?_
        refine run_seq ?_
        refine run_region ?_
        refine ov (xbuild (vs := []) (cells := #[.int .i64 0, .slice none 0 0]) rfl (by kernel_rfl)) rfl rfl rfl ?_
        refine ostoreN (vs := _) Try.sizeOf41 rfl rfl O2 rfl (by simp) (by simp [Value.oneCell']) rfl ?_
        intro w4 on4 O4
        have hz4 := on4.size
        have E := on4.ext E (by omega)
        replace O1 := on4.own O1 (by omega)
        replace O4 : Own w4 b2 [.int .i64 0, .slice none 0 0] 41 := O4
        refine ov (xassign rfl) rfl rfl rfl ?_
        refine ops_nil ?_
        refine run_ret Try.func64 (resc2 rfl rfl (run_loadVar_cells Try.isAgg41 Try.sizeOf41 O4.cells rfl) rfl) ?_
        have he := turn_2 (j := j) (q := q) hpp (by simp only [Bool.and_eq_false_iff, decide_eq_false_iff_not] at c30; omega)
        exact ⟨_, rfl, E, none, 0, 0, by rw [he], by rw [he]; exact On.none _ _ _ _ _ _ _ _ _ _⟩
    ·
      refine ov (xnot rfl) rfl rfl rfl ?_
      refine ov (xmove rfl) rfl rfl rfl ?_
      refine og rfl rfl rfl ?_
      refine og rfl rfl rfl ?_
      refine og rfl rfl rfl ?_
      refine og rfl rfl rfl ?_
      refine og rfl rfl rfl ?_
      refine ov (xpick_t rfl rfl) rfl rfl rfl ?_
      refine ov (xassign rfl) rfl rfl rfl ?_
      refine ops_nil ?_
      refine run_cond_t rfl ?_
      refine run_seq ?_
      refine run_region ?_
      refine ov (xbuild (vs := []) (cells := #[.int .i64 0, .slice none 0 0]) rfl (by kernel_rfl)) rfl rfl rfl ?_
      refine ostoreN (vs := _) Try.sizeOf41 rfl rfl O2 rfl (by simp) (by simp [Value.oneCell']) rfl ?_
      intro w4 on4 O4
      have hz4 := on4.size
      have E := on4.ext E (by omega)
      replace O1 := on4.own O1 (by omega)
      replace O4 : Own w4 b2 [.int .i64 0, .slice none 0 0] 41 := O4
      refine ov (xassign rfl) rfl rfl rfl ?_
      refine ops_nil ?_
      refine run_ret Try.func64 (resc2 rfl rfl (run_loadVar_cells Try.isAgg41 Try.sizeOf41 O4.cells rfl) rfl) ?_
      have he := turn_2 (j := j) (q := q) hpp (by simp only [Bool.and_eq_false_iff, decide_eq_false_iff_not] at c24; omega)
      exact ⟨_, rfl, E, none, 0, 0, by rw [he], by rw [he]; exact On.none _ _ _ _ _ _ _ _ _ _⟩
  ·
    refine ov (xnot rfl) rfl rfl rfl ?_
    refine ov (xassign rfl) rfl rfl rfl ?_
    refine ops_nil ?_
    refine run_cond_t rfl ?_
    refine run_seq ?_
    refine run_region ?_
    refine ov (xbuild (vs := []) (cells := #[.int .i64 0, .slice none 0 0]) rfl (by kernel_rfl)) rfl rfl rfl ?_
    refine ostoreN (vs := _) Try.sizeOf41 rfl rfl O2 rfl (by simp) (by simp [Value.oneCell']) rfl ?_
    intro w4 on4 O4
    have hz4 := on4.size
    have E := on4.ext E (by omega)
    replace O1 := on4.own O1 (by omega)
    replace O4 : Own w4 b2 [.int .i64 0, .slice none 0 0] 41 := O4
    refine ov (xassign rfl) rfl rfl rfl ?_
    refine ops_nil ?_
    refine run_ret Try.func64 (resc2 rfl rfl (run_loadVar_cells Try.isAgg41 Try.sizeOf41 O4.cells rfl) rfl) ?_
    have he := turn_1 (j := j) (q := q) c16
    exact ⟨_, rfl, E, none, 0, 0, by rw [he], by rw [he]; exact On.none _ _ _ _ _ _ _ _ _ _⟩

set_option maxHeartbeats 8000000 in
theorem sTurnVote_ok (p : Option Addr) (n c : Nat) (xs : List Question) (nd : Int) (vs : List (List Int)) (p3 : Option Addr) (n3 c3 : Nat) (w : World) (H : Sl Question.cells 3 w p n c xs) (hx : ∀ x ∈ xs, x.Label.size ≤ 9223372036854775807) (Hv0 : SnInt64SS w p3 n3 c3 vs) (j q : Int) : Ret Try.prog 63 [.slice p n c, .agg #[.int .i64 nd, .slice p3 n3 c3], .int .i64 j, .int .i64 q] w (fun v w' => Ext w w' ∧ ∃ p n c, v = .tuple #[.agg #[.int .i64 (turnVote xs nd vs j q).1.1, .slice p n c], .int .i64 (turnVote xs nd vs j q).2] ∧ OnInt64SS w' w.heap.size w'.heap.size p n c (turnVote xs nd vs j q).1.2) := by
  refine ret_of_run (N := 70) Try.func63 rfl rfl rfl ?_
  have hn := H.len
  have hn6 := H.n64
  obtain ⟨hd, Hv⟩ := Hv0
  have hn3 := Hv.len
  have hv6 := Hv.n64
  have E : Ext w w := Ext.refl w
  refine run_seq ?_
  refine run_region ?_
  refine obox rfl rfl rfl ?_
  intro b1 w1 e1 hb1 hz1 O1
  have E := E.trans e1
  replace O1 : Own w1 b1 [.int .i64 nd, .slice p3 n3 c3] 41 := O1
  refine oalloc Try.zeroValue41 rfl rfl ?_
  intro b2 w2 e2 hb2 hz2 O2
  have E := E.trans e2
  replace O1 := O1.ext e2
  replace O2 : Own w2 b2 [.int .i64 0, .slice none 0 0] 41 := O2
  refine ov (xassign rfl) rfl rfl rfl ?_
  refine ops_nil ?_
  refine run_seq ?_
  refine run_region ?_
  refine ov (xmove rfl) rfl rfl rfl ?_
  refine ov (v := .agg #[.int .i64 nd, .slice p3 n3 c3]) (xloadN Try.isAgg41 Try.sizeOf41 rfl (O1.cells) rfl) rfl rfl rfl ?_
  refine ov (xmove rfl) rfl rfl rfl ?_
  refine ov (xmove rfl) rfl rfl rfl ?_
  refine oc (xcall Try.call114 rfl) rfl rfl rfl (l27Code_ok _ _ _ _ _ _ _ _ _ _ (H.ext E) (by assumption) (Hv.ext E).sn j q) ?_
  rintro _ w3 ⟨rfl, e3⟩
  have z3 := e3.size
  have E := E.trans e3
  replace O1 := O1.ext e3
  replace O2 := O2.ext e3
  refine ov (xassign rfl) rfl rfl rfl ?_
  refine ops_nil ?_
  refine run_seq ?_
  refine run_seq ?_
  refine run_region ?_
  refine ov (xmove rfl) rfl rfl rfl ?_
  refine ov (xeql rfl rfl _ rfl) rfl rfl rfl ?_
  refine ods (fun c19 => ?_) (fun c19 => ?_)
  ·
    obtain ⟨hpp_, hj1, hj2, hq1, hq2⟩ := pollCode_zero (by omega : pollCode xs nd vs j q = 0)
    have hff := isPoll_form hpp_
    have hfl := isForm_len hff
    have hfr := isPoll_row hpp_
    have hfv := isPoll_len hpp_
    have hpp := hpp_
    have hjv : j.toNat < vs.length := by omega
    have hrj := hfr vs[j.toNat] (List.getElem_mem hjv)
    have hqv : q.toNat < vs[j.toNat].length := by omega
    have hva := areAns_at (isPoll_votes hpp hjv) (i := q.toNat) hqv
    have hij := (Hv.inner (i := j.toNat) hjv).len
    simp only [innInt64SS] at hij
    have hnr : ¬ (j < 0 ∨ (vs.length : Int) ≤ j ∨ q < 0 ∨ (xs.length : Int) ≤ q) := by omega
    refine ov (xmove rfl) rfl rfl rfl ?_
    refine ov (xfieldAddr fo41f1 rfl) rfl rfl rfl ?_
    refine ov (v := .slice p3 n3 c3) (xload1 Try.isAgg36 rfl (O1.cells) rfl) rfl rfl rfl ?_
    refine ov (xmove rfl) rfl rfl rfl ?_
    have h24 := (Hv.ext E).at (i := j.toNat) (by omega)
    refine ov (xindexN (i := j.toNat) Try.underlying36 Try.sizeOf31 rfl rfl (by omega) ((Hv.ext E).p (i := j.toNat) (by omega)) (by have := (Hv.ext E).len; omega)) rfl rfl rfl ?_
    refine ov (v := .slice (hd j.toNat).p (hd j.toNat).n (hd j.toNat).c) (xloadz Try.isAgg31 rfl (h24) rfl) rfl rfl rfl ?_
    refine ov (xmove rfl) rfl rfl rfl ?_
    have h27 := ((show Sl i64c 1 _ _ _ _ vs[j.toNat] from (Hv.inner (i := j.toNat) (by omega)).ext E)).at (i := q.toNat) (by omega)
    refine ov (xindexN (i := q.toNat) Try.underlying31 Try.sizeOf2 rfl rfl (by omega) (((show Sl i64c 1 _ _ _ _ vs[j.toNat] from (Hv.inner (i := j.toNat) (by omega)).ext E)).p (i := q.toNat) (by omega)) (by have := ((show Sl i64c 1 _ _ _ _ vs[j.toNat] from (Hv.inner (i := j.toNat) (by omega)).ext E)).len; omega)) rfl rfl rfl ?_
    refine ov (v := .int .i64 vs[j.toNat][q.toNat]) (xloadz Try.isAgg2 rfl (h27) rfl) rfl rfl rfl ?_
    refine ov (xlss rfl rfl _ rfl) rfl rfl rfl ?_
    refine ods (fun c29 => ?_) (fun c29 => ?_)
    ·
      refine ov (xpick_t rfl rfl) rfl rfl rfl ?_
      refine ops_nil ?_
      refine run_cond_t rfl ?_
      refine run_region ?_
      refine ov (xassign rfl) rfl rfl rfl ?_
      refine ops_nil ?_
      refine run_seq ?_
      refine run_seq ?_
      refine run_region ?_
      refine ov (xmove rfl) rfl rfl rfl ?_
      refine ov (xneq rfl rfl _ rfl) rfl rfl rfl ?_
      refine ods (fun c32 => ?_) (fun c32 => ?_)
      ·
        refine ops_nil ?_
        refine run_cond_t rfl ?_
        refine run_seq ?_
        refine run_region ?_
        refine ov (xbuild (vs := []) (cells := #[.int .i64 0, .slice none 0 0]) rfl (by kernel_rfl)) rfl rfl rfl ?_
        refine ov (xmove rfl) rfl rfl rfl ?_
        refine ostoreN (vs := _) Try.sizeOf41 rfl rfl O2 rfl (by simp) (by simp [Value.oneCell']) rfl ?_
        intro w4 on4 O4
        have hz4 := on4.size
        have E := on4.ext E (by omega)
        replace O1 := on4.own O1 (by omega)
        replace O4 : Own w4 b2 [.int .i64 0, .slice none 0 0] 41 := O4
        refine ov (xassign rfl) rfl rfl rfl ?_
        refine ops_nil ?_
        refine run_ret Try.func63 (resc2 rfl rfl (run_loadVar_cells Try.isAgg41 Try.sizeOf41 O4.cells rfl) rfl) ?_
        have he := turn_5 hpp hnr hjv hqv (by omega)
        exact ⟨_, rfl, E, none, 0, 0, by rw [he], by rw [he]; exact On.none _ _ _ _ _ _ _ _ _ _⟩
      · exfalso; omega
    ·
      refine ov (xpick_t rfl rfl) rfl rfl rfl ?_
      refine ops_nil ?_
      refine run_cond_f rfl ?_
      refine run_skip ?_
      refine run_seq ?_
      refine run_seq ?_
      refine run_region ?_
      refine ov (xmove rfl) rfl rfl rfl ?_
      refine ov (xneq rfl rfl _ rfl) rfl rfl rfl ?_
      refine ods (fun c32 => ?_) (fun c32 => ?_)
      · exfalso; omega
      ·
        refine ops_nil ?_
        refine run_cond_f rfl ?_
        refine run_skip ?_
        refine run_seq ?_
        refine run_region ?_
        refine obuild (cs := []) (sz := 1) Try.underlying36 inf31 rfl rfl (by decide) rfl rfl (by simp [Value.cells]) rfl rfl rfl ?_
        intro b4 w4 e4 hb4 hz4 O4
        have E := E.trans e4
        replace O1 := O1.ext e4
        replace O2 := O2.ext e4
        have G4 : NOw cellsInt64SS 1 31 innInt64SS i64c 1 2 w4 b4 (b4 + 1) (some ⟨b4, 0, none⟩) 0 0 [] := ⟨Own.ow (by simpa using O4) rfl (by omega) (Nat.le_refl _) (by omega) (by intro x hx; cases hx), Inn.nil⟩
        refine ov (xassign rfl) rfl rfl rfl ?_
        refine ops_nil ?_
        refine run_seq ?_
        refine run_seq ?_
        refine run_region ?_
        refine ov (xassign rfl) rfl rfl rfl ?_
        refine ops_nil ?_
        refine run_block ?_
        refine run_loop (ι := Nat × Option Addr × Nat × Nat × List (X ((List Int))) × World) (fun x_ => match x_ with | (k, q_11, m_11, c_11, ys_11, wr) => (Ext w wr) ∧ (Own wr b1 ([.int .i64 nd, .slice p3 n3 c3]) 41) ∧ (Own wr b2 ([.int .i64 0, .slice none 0 0]) 41) ∧ (NOw cellsInt64SS 1 31 innInt64SS i64c 1 2 wr b4 wr.heap.size q_11 m_11 c_11 ys_11) ∧ (b4 ≤ wr.heap.size) ∧ (w4.heap.size ≤ wr.heap.size) ∧ (k ≤ n3) ∧ (m_11 = k) ∧ (ys_11.map X.v = vs.take k)) (fun x_ => match x_ with | (k, q_11, m_11, c_11, ys_11, wr) => [(2, .int .i64 j), (3, .int .i64 q), (5, .pointer (some ⟨b1, 0, none⟩)), (8, .pointer (some ⟨b2, 0, none⟩)), (11, .slice q_11 m_11 c_11), (12, .int .i64 (k : Int))]) (fun x_ => match x_ with | (k, q_11, m_11, c_11, ys_11, wr) => wr) (fun x_ => match x_ with | (k, q_11, m_11, c_11, ys_11, wr) => n3 - k) ?_ (0, (some ⟨b4, 0, none⟩), 0, 0, [], w4) (⟨E, O1, O2, G4.wide (by omega) (by omega), by omega, Nat.le_refl _, by omega, rfl, rfl⟩) ⟨rfl, rfl, rfl, rfl, rfl, rfl, trivial⟩ rfl
        intro i_ hI_ hback8
        obtain ⟨k, q_11, m_11, c_11, ys_11, wr⟩ := i_
        obtain ⟨E, O_b1, O_b2, G_11, lo_11, lz_wr, hk, hmv, hz⟩ := hI_
        try dsimp only
        have zr := E.size
        have lt_b1 := O_b1.lt
        have lt_b2 := O_b2.lt
        have lg_11 := G_11.o.len
        refine run_seq ?_
        refine run_seq ?_
        refine run_region ?_
        refine ov (xmove rfl) rfl rfl rfl ?_
        refine ov (xfieldAddr fo41f1 rfl) rfl rfl rfl ?_
        refine ov (v := .slice p3 n3 c3) (xload1 Try.isAgg36 rfl (O_b1.cells) rfl) rfl rfl rfl ?_
        refine ov (xlen Try.underlying36 rfl) rfl rfl rfl ?_
        refine ov (xlss rfl rfl _ rfl) rfl rfl rfl ?_
        refine ods (fun c40 => ?_) (fun c40 => ?_)
        ·
          have hrk := hfr vs[k] (List.getElem_mem (by omega))
          have hik := (Hv.inner (i := k) (by omega)).len
          simp only [innInt64SS] at hik
          refine ops_nil ?_
          refine run_cond_t rfl ?_
          refine run_skip ?_
          refine run_seq ?_
          refine run_block ?_
          refine run_region ?_
          refine ov (xmove rfl) rfl rfl rfl ?_
          refine ov (xfieldAddr fo41f1 rfl) rfl rfl rfl ?_
          refine ov (v := .slice p3 n3 c3) (xload1 Try.isAgg36 rfl (O_b1.cells) rfl) rfl rfl rfl ?_
          refine ov (xmove rfl) rfl rfl rfl ?_
          have h47 := (Hv.ext E).at (i := k) (by omega)
          refine ov (xindexN (i := k) Try.underlying36 Try.sizeOf31 rfl rfl rfl ((Hv.ext E).p (i := k) (by omega)) (by have := (Hv.ext E).len; omega)) rfl rfl rfl ?_
          refine ov (v := .slice (hd k).p (hd k).n (hd k).c) (xloadz Try.isAgg31 rfl (h47) rfl) rfl rfl rfl ?_
          refine oc (xcall Try.call121 rfl) rfl rfl rfl (l01Own_ok _ _ _ _ _ ((show Sl i64c 1 _ _ _ _ vs[k] from (Hv.inner (i := k) (by omega)).ext E)) ((show Sl i64c 1 _ _ _ _ vs[k] from (Hv.inner (i := k) (by omega)).ext E)).nil (by omega)) ?_
          rintro _ w5 ⟨e5, q49, c49_, rfl, G49⟩
          have z5 := e5.size
          have E := E.trans e5
          replace G_11 := G_11.ext e5
          replace O_b1 := O_b1.ext e5
          replace O_b2 := O_b2.ext e5
          refine obuild (cs := [.slice q49 (hd k).n c49_]) (sz := 1) Try.underlying36 inf31 rfl rfl (by decide) rfl rfl (by simp [Value.cells]) rfl rfl rfl ?_
          intro b6 w6 e6 hb6 hz6 O6
          have E := E.trans e6
          replace G_11 := G_11.ext e6
          replace G49 := G49.ext e6
          replace O_b1 := O_b1.ext e6
          replace O_b2 := O_b2.ext e6
          refine oappNT (bytes := 24) (nm := (m_11 + 1)) (z := (⟨vs[k], ⟨q49, (hd k).n, c49_⟩⟩ : X (List Int))) G_11 (by decide) rfl rfl elem31 (Own.sl1 (y := ((⟨vs[k], ⟨q49, (hd k).n, c49_⟩⟩ : X (List Int)) : X _)) O6) (by intro h; cases h) rfl (by simp [xc, cellsInt64SS, Value.oneCell']) G49 (by omega) (by omega) (by omega) (by omega) (by omega) (by omega) (by omega) rfl  rfl rfl ?_
          intro p7 c7_ w7 m7 k7 G7
          have hz7 := m7.size
          have E := m7.toExt E (by omega)
          replace G49 := (by first | exact G49.off m7 (by omega) | exact G49.offP G_11.o k7 (by decide))
          replace O_b1 := (by first | exact m7.own O_b1 (by omega) | exact k7.off_own O_b1 (G_11.o.neT O_b1 (by decide)))
          replace O_b2 := (by first | exact m7.own O_b2 (by omega) | exact k7.off_own O_b2 (G_11.o.neT O_b2 (by decide)))
          refine ov (xassign rfl) rfl rfl rfl ?_
          refine ops_nil ?_
          refine run_inBlock ?_
          refine run_region ?_
          refine ov (xmove rfl) rfl rfl rfl ?_
          refine ov (xadd rfl rfl (by unfold I64; omega)) rfl rfl rfl ?_
          refine ov (xassign rfl) rfl rfl rfl ?_
          refine ops_nil ?_
          refine run_sub ?_ (hback8 (k + 1, p7, (m_11 + 1), c7_, (ys_11 ++ [(⟨vs[k], ⟨q49, (hd k).n, c49_⟩⟩ : X (List Int))]), w7) (⟨E, O_b1, O_b2, G7.wide (by omega) (by omega), by omega, by omega, by omega, by omega, by rw [List.map_append, hz, List.take_succ_eq_append_getElem (by omega)]; rfl⟩) (by first | omega | (dsimp only; omega)))
          exact ⟨rfl, rfl, rfl, rfl, rfl, rfl, trivial⟩
        ·
          refine ops_nil ?_
          refine run_cond_f rfl ?_
          refine run_exit rfl ?_
          refine run_seq ?_
          refine run_tail 14 (by kernel_rfl) (by kernel_rfl) ?_
          intro w5 e5
          have z5 := e5.size
          have E := E.trans e5
          replace G_11 := G_11.ext e5
          replace O_b1 := O_b1.ext e5
          replace O_b2 := O_b2.ext e5
          have hkn : k = n3 := by omega
          have hz2 : ys_11.map X.v = vs := by rw [hz, hkn, hn3, List.take_length]
          have lGV := G_11.o.len
          have hzl : ys_11.length = vs.length := by rw [← hz2, List.length_map]
          have hjz : j.toNat < ys_11.length := by omega
          have hzj : ys_11[j.toNat].v = vs[j.toNat] := by simp only [← hz2, List.getElem_map]
          have hIl := (G_11.i.i ys_11[j.toNat] (List.getElem_mem hjz)).len
          simp only [innInt64SS, hzj] at hIl
          have hqz : q.toNat < ys_11[j.toNat].v.length := by rw [hzj]; exact hqv
          have hzq : ys_11[j.toNat].v[q.toNat] = vs[j.toNat][q.toNat] := by simp only [hzj]
          refine stv (xmove rfl) rfl rfl rfl ?_
          refine stv (xmove rfl) rfl rfl rfl ?_
          have h54 := (G_11.o.sl).at (i := j.toNat) (by omega)
          refine stv (xindexN (i := j.toNat) Try.underlying36 Try.sizeOf31 rfl rfl (by omega) ((G_11.o.sl).p (i := j.toNat) (by omega)) (by have := (G_11.o.sl).len; omega)) rfl rfl rfl ?_
          refine stv (v := .slice ys_11[j.toNat].h.p ys_11[j.toNat].h.n ys_11[j.toNat].h.c) (xloadz Try.isAgg31 rfl (h54) rfl) rfl rfl rfl ?_
          refine stv (xmove rfl) rfl rfl rfl ?_
          refine stv (xmove rfl) rfl rfl rfl ?_
          refine stv (xmove rfl) rfl rfl rfl ?_
          have h59 := (G_11.o.sl).at (i := j.toNat) (by omega)
          refine stv (xindexN (i := j.toNat) Try.underlying36 Try.sizeOf31 rfl rfl (by omega) ((G_11.o.sl).p (i := j.toNat) (by omega)) (by have := (G_11.o.sl).len; omega)) rfl rfl rfl ?_
          refine stv (v := .slice ys_11[j.toNat].h.p ys_11[j.toNat].h.n ys_11[j.toNat].h.c) (xloadz Try.isAgg31 rfl (h59) rfl) rfl rfl rfl ?_
          refine stv (xmove rfl) rfl rfl rfl ?_
          have h62 := ((G_11.i.i ys_11[j.toNat] (List.getElem_mem hjz)).sl).at (i := q.toNat) hqz
          refine stv (xindexN (i := q.toNat) Try.underlying31 Try.sizeOf2 rfl rfl (by omega) (((G_11.i.i ys_11[j.toNat] (List.getElem_mem hjz)).sl).p (i := q.toNat) hqz) (by have := ((G_11.i.i ys_11[j.toNat] (List.getElem_mem hjz)).sl).len; omega)) rfl rfl rfl ?_
          refine stv (v := .int .i64 ys_11[j.toNat].v[q.toNat]) (xloadz Try.isAgg2 rfl (h62) rfl) rfl rfl rfl ?_
          refine stv (xsub rfl rfl (by unfold I64; omega)) rfl rfl rfl ?_
          have h65 := ((G_11.i.i ys_11[j.toNat] (List.getElem_mem hjz)).sl).at (i := q.toNat) hqz
          refine stv (xindexN (i := q.toNat) Try.underlying31 Try.sizeOf2 rfl rfl (by omega) (((G_11.i.i ys_11[j.toNat] (List.getElem_mem hjz)).sl).p (i := q.toNat) hqz) (by have := ((G_11.i.i ys_11[j.toNat] (List.getElem_mem hjz)).sl).len; omega)) rfl rfl rfl ?_
          refine st_storeNI1 (j := j.toNat) (i := q.toNat) (v' := ys_11[j.toNat].v.set q.toNat (1 - ys_11[j.toNat].v[q.toNat])) (z := (1 - ys_11[j.toNat].v[q.toNat])) Try.sizeOf2 G_11 (by decide) hjz (by omega) rfl rfl rfl rfl rfl rfl rfl ?_
          intro w6 m6 k6 g6
          have z6 := m6.size
          have E := m6.toExt E (by omega)
          replace O_b1 := k6.off_own O_b1 ((G_11.i.i ys_11[j.toNat] (List.getElem_mem hjz)).neT O_b1 (by decide))
          replace O_b2 := k6.off_own O_b2 ((G_11.i.i ys_11[j.toNat] (List.getElem_mem hjz)).neT O_b2 (by decide))
          replace G_11 := g6
          refine run_seq ?_
          refine run_region ?_
          refine ov (xfieldAddr fo41f0 rfl) rfl rfl rfl ?_
          refine ov (v := .int .i64 nd) (xload1 Try.isAgg2 rfl (O_b1.cells) rfl) rfl rfl rfl ?_
          refine ov (xmove rfl) rfl rfl rfl ?_
          refine ov (xbuild (vs := [.int .i64 nd, .slice q_11 m_11 c_11]) (cells := #[.int .i64 nd, .slice q_11 m_11 c_11]) rfl (by kernel_rfl)) rfl rfl rfl ?_
          refine ostoreN (vs := _) Try.sizeOf41 rfl rfl O_b2 rfl (by simp) (by simp [Value.oneCell']) rfl ?_
          intro w7 on7 O7
          have hz7 := on7.size
          have E := on7.ext E (by omega)
          replace G_11 := G_11.onlyT O_b2 (by decide) on7
          replace O_b1 := on7.own O_b1 (by omega)
          replace O7 : Own w7 b2 [.int .i64 nd, .slice q_11 m_11 c_11] 41 := O7
          refine ov (xassign rfl) rfl rfl rfl ?_
          refine ops_nil ?_
          refine run_ret Try.func63 (resc2 rfl rfl (run_loadVar_cells Try.isAgg41 Try.sizeOf41 O7.cells rfl) rfl) ?_
          have he := turn_0 hpp hnr hjv hqv (by omega)
          exact ⟨_, rfl, E, _, _, _, by rw [he], by rw [he]; exact ⟨_, turn_list hz2 hjz hjv hqv hzj (by omega), G_11.wide (by omega) (by omega)⟩⟩
  ·
    refine ov (xmove rfl) rfl rfl rfl ?_
    refine og rfl rfl rfl ?_
    refine og rfl rfl rfl ?_
    refine og rfl rfl rfl ?_
    refine og rfl rfl rfl ?_
    refine og rfl rfl rfl ?_
    refine og rfl rfl rfl ?_
    refine og rfl rfl rfl ?_
    refine og rfl rfl rfl ?_
    refine og rfl rfl rfl ?_
    refine ov (xpick_f rfl rfl) rfl rfl rfl ?_
    refine ops_nil ?_
    refine run_cond_f rfl ?_
    refine run_skip ?_
    refine run_seq ?_
    refine run_seq ?_
    refine run_region ?_
    refine ov (xmove rfl) rfl rfl rfl ?_
    refine ov (xneq rfl rfl _ rfl) rfl rfl rfl ?_
    refine ods (fun c32 => ?_) (fun c32 => ?_)
    ·
      refine ops_nil ?_
      refine run_cond_t rfl ?_
      refine run_seq ?_
      refine run_region ?_
      refine ov (xbuild (vs := []) (cells := #[.int .i64 0, .slice none 0 0]) rfl (by kernel_rfl)) rfl rfl rfl ?_
      refine ov (xmove rfl) rfl rfl rfl ?_
      refine ostoreN (vs := _) Try.sizeOf41 rfl rfl O2 rfl (by simp) (by simp [Value.oneCell']) rfl ?_
      intro w4 on4 O4
      have hz4 := on4.size
      have E := on4.ext E (by omega)
      replace O1 := on4.own O1 (by omega)
      replace O4 : Own w4 b2 [.int .i64 0, .slice none 0 0] 41 := O4
      refine ov (xassign rfl) rfl rfl rfl ?_
      refine ops_nil ?_
      refine run_ret Try.func63 (resc2 rfl rfl (run_loadVar_cells Try.isAgg41 Try.sizeOf41 O4.cells rfl) rfl) ?_
      have he := turn_c (q := q) (j := j) (xs := xs) (nd := nd) (vs := vs) (by omega)
      exact ⟨_, rfl, E, none, 0, 0, by rw [he], by rw [he]; exact On.none _ _ _ _ _ _ _ _ _ _⟩
    · exfalso; omega
end Go.Proofs.Ytinpkihmkfiidaa
