/-
  spec.ReadRuling and impl.ReadRuling. No condition beyond those written in each theorem.
-/
import Derived.Test.YtnjohcbamblilaaDoorReadD
namespace Go.Proofs.YtnjohcbamblilaaDoor
open Go.RowKit
set_option linter.unusedVariables false
set_option linter.unusedSimpArgs false
set_option linter.unusedSectionVars false
set_option maxRecDepth 4000

set_option maxHeartbeats 1000000 in
theorem sReadRuling_ok (s : ByteArray) (w : World) (hs : s.size ≤ 1048576) : Ret Tryd.prog 10 [.string s] w (Pv w (.tuple #[.agg #[.int .i64 (readR s).1.Day, .string (readR s).1.Code, .int .i64 (readR s).1.Kind], .int .i64 (readR s).2])) := by
  refine ret_of_run (N := 48) Tryd.func10 rfl rfl rfl ?_
  have E : Ext w w := Ext.refl w
  refine run_seq ?_
  refine run_region ?_
  refine oalloc Tryd.zeroValue27 rfl rfl ?_
  intro b1 w1 e1 hb1 hz1 O1
  have E := E.trans e1
  replace O1 : Own w1 b1 [.int .i64 0, .string ⟨#[]⟩, .int .i64 0] 27 := O1
  refine ov (xassign rfl) rfl rfl rfl ?_
  refine ops_nil ?_
  refine run_seq ?_
  refine run_region ?_
  refine ov (xmove rfl) rfl rfl rfl ?_
  refine oc (xcall Tryd.call21 rfl) rfl rfl rfl (l01Split47 s _ hs) ?_
  rintro _ w2 ⟨e2, q10, m10, d10, rfl, G10⟩
  have z2 := e2.size
  have E := E.trans e2
  replace O1 := O1.ext e2
  have lG10 := G10.len
  refine ov (xassign rfl) rfl rfl rfl ?_
  refine ops_nil ?_
  refine run_seq ?_
  refine run_seq ?_
  refine run_region ?_
  refine ov (xmove rfl) rfl rfl rfl ?_
  refine ov (xlen Tryd.underlying41 rfl) rfl rfl rfl ?_
  refine ov (xneq rfl rfl _ rfl) rfl rfl rfl ?_
  refine ods (fun c13 => ?_) (fun c13 => ?_)
  ·
    refine ops_nil ?_
    refine run_cond_t rfl ?_
    refine run_seq ?_
    refine run_region ?_
    refine ov (xbuild (vs := []) (cells := #[.int .i64 0, .string ⟨#[]⟩, .int .i64 0]) rfl (by kernel_rfl)) rfl rfl rfl ?_
    refine ostoreN (vs := _) Tryd.sizeOf27 rfl rfl O1 rfl (by simp) (by simp [Value.oneCell']) rfl ?_
    intro w3 on3 O3
    have hz3 := on3.size
    have E := on3.ext E (by omega)
    replace G10 := G10.only on3 (by omega)
    replace O3 : Own w3 b1 [.int .i64 0, .string ⟨#[]⟩, .int .i64 0] 27 := O3
    refine ov (xassign rfl) rfl rfl rfl ?_
    refine ops_nil ?_
    refine run_ret Tryd.func10 (resc2 rfl rfl (run_loadVar_cells Tryd.isAgg27 Tryd.sizeOf27 O3.cells rfl) rfl) ?_
    exact ⟨_, rfl, by rw [readR_f (reads_not3 (by omega))]; try rfl, E⟩
  ·
    refine ops_nil ?_
    refine run_cond_f rfl ?_
    refine run_skip ?_
    refine run_seq ?_
    refine run_region ?_
    obtain ⟨p0, p1, p2, hp3⟩ := three (xs := cutBs 47 s) (by omega)
    obtain ⟨hz0, hz1, hz2⟩ := cut3 hp3
    rw [hp3] at G10 lG10
    refine ov (xmove rfl) rfl rfl rfl ?_
    have h17 := (G10.sl).at (i := 0) (by omega)
    refine ov (xindexN (i := 0) Tryd.underlying41 Tryd.sizeOf9 rfl rfl rfl ((G10.sl).p (i := 0) (by omega)) (by have := (G10.sl).len; omega)) rfl rfl rfl ?_
    refine ov (v := .string p0) (xloadz Tryd.isAgg9 rfl (h17) rfl) rfl rfl rfl ?_
    refine oc (xcall Tryd.call22 rfl) rfl rfl rfl (l01Value_ok p0 _ (by omega)) ?_
    rintro _ w3 ⟨rfl, e3⟩
    have z3 := e3.size
    have E := E.trans e3
    replace G10 := G10.ext e3
    replace O1 := O1.ext e3
    refine ov (xmove rfl) rfl rfl rfl ?_
    refine ov (xextract rfl rfl) rfl rfl rfl ?_
    refine ov (xextract rfl rfl) rfl rfl rfl ?_
    refine obs (fun c21 => ?_) (fun c21 => ?_)
    ·
      refine ov (xassign rfl) rfl rfl rfl ?_
      refine ov (xassign rfl) rfl rfl rfl ?_
      refine ops_nil ?_
      refine run_seq ?_
      refine run_region ?_
      refine ov (xmove rfl) rfl rfl rfl ?_
      refine ov (xmove rfl) rfl rfl rfl ?_
      have h24 := (G10.sl).at (i := 1) (by omega)
      refine ov (xindexN (i := 1) Tryd.underlying41 Tryd.sizeOf9 rfl rfl rfl ((G10.sl).p (i := 1) (by omega)) (by have := (G10.sl).len; omega)) rfl rfl rfl ?_
      refine ov (v := .string p1) (xloadz Tryd.isAgg9 rfl (h24) rfl) rfl rfl rfl ?_
      refine ov (xbuild (vs := [.int .i64 (sval p0).1, .string p1, .int .i64 (-1)]) (cells := #[.int .i64 (sval p0).1, .string p1, .int .i64 (-1)]) rfl (by kernel_rfl)) rfl rfl rfl ?_
      refine oalloc Tryd.zeroValue27 rfl rfl ?_
      intro b4 w4 e4 hb4 hz4 O4
      have E := E.trans e4
      replace G10 := G10.ext e4
      replace O1 := O1.ext e4
      replace O4 : Own w4 b4 [.int .i64 0, .string ⟨#[]⟩, .int .i64 0] 27 := O4
      refine ostoreN (vs := _) Tryd.sizeOf27 rfl rfl O4 rfl (by simp) (by simp [Value.oneCell']) rfl ?_
      intro w5 on5 O5
      have hz5 := on5.size
      have E := on5.ext E (by omega)
      replace G10 := G10.only on5 (by omega)
      replace O1 := on5.own O1 (by omega)
      replace O5 : Own w5 b4 [.int .i64 (sval p0).1, .string p1, .int .i64 (-1)] 27 := O5
      refine ops_nil ?_
      refine run_seq ?_
      refine run_seq ?_
      refine run_region ?_
      refine ov (xassign rfl) rfl rfl rfl ?_
      refine ops_nil ?_
      refine run_block ?_
      refine run_loop (ι := Nat × Int × World) (fun x_ => match x_ with | (k, kd, wr) => (Ext w wr) ∧ (Own wr b1 ([.int .i64 0, .string ⟨#[]⟩, .int .i64 0]) 27) ∧ (Own wr b4 ([.int .i64 (sval p0).1, .string p1, .int .i64 kd]) 27) ∧ (Ow strc 1 9 wr w1.heap.size w2.heap.size q10 m10 d10 [p0, p1, p2]) ∧ (w5.heap.size ≤ wr.heap.size) ∧ (k ≤ 4) ∧ (kd = kfind p2 k)) (fun x_ => match x_ with | (k, kd, wr) => [(2, .pointer (some ⟨b1, 0, none⟩)), (4, .slice q10 m10 d10), (6, .bool true), (7, .pointer (some ⟨b4, 0, none⟩)), (8, .int .i64 (k : Int))]) (fun x_ => match x_ with | (k, kd, wr) => wr) (fun x_ => match x_ with | (k, kd, wr) => 4 - k) ?_ (0, -1, w5) (⟨E, O1, O5, G10, Nat.le_refl _, by omega, rfl⟩) ⟨rfl, rfl, rfl, rfl, rfl, trivial⟩ rfl
      intro i_ hI_ hback7
      obtain ⟨k, kd, wr⟩ := i_
      obtain ⟨E, O_b1, O_b4, G10, lz_wr, hk, hkd⟩ := hI_
      try dsimp only
      have zr := E.size
      have lt_b1 := O_b1.lt
      have lt_b4 := O_b4.lt
      refine run_seq ?_
      refine run_seq ?_
      refine run_region ?_
      refine ov (xmove rfl) rfl rfl rfl ?_
      refine ov (xlss rfl rfl _ rfl) rfl rfl rfl ?_
      refine ods (fun c28 => ?_) (fun c28 => ?_)
      ·
        refine ops_nil ?_
        refine run_cond_t rfl ?_
        refine run_skip ?_
        refine run_seq ?_
        refine run_block ?_
        refine run_seq ?_
        refine run_draw (by kernel_rfl) (by kernel_rfl) ?_
        refine qv (fun w' x_ => xmove rfl) rfl rfl rfl ?_
        have t32 := fun (w' : World) (x_ : Ext wr w') => Ret.q (w := w') (l25Word_ok (k : Int) _ (by omega) (by omega))
        refine qc (fun w' => xcall Tryd.call23 rfl) rfl rfl rfl t32 ?_
        clear t32
        refine qv (fun w' x_ => xmove rfl) rfl rfl rfl ?_
        have h34 := (G10.sl).at (i := 2) (by omega)
        refine qv (fun w' x_ => xindexN (i := 2) Tryd.underlying41 Tryd.sizeOf9 rfl rfl rfl ((G10.sl).p (i := 2) (by omega)) (by have := (G10.sl).len; omega)) rfl rfl rfl ?_
        refine qv (v := .string p2) (fun w' x_ => xloadz Tryd.isAgg9 rfl ((h34).ext x_) rfl) rfl rfl rfl ?_
        refine qv (fun w' x_ => xseql rfl rfl _ rfl) rfl rfl rfl ?_
        refine qds (fun c36 => ?_) (fun c36 => ?_)
        ·
          refine q_nil ?_
          intro w6 e6
          have z6 := e6.size
          have E := E.trans e6
          replace G10 := G10.ext e6
          replace O_b1 := O_b1.ext e6
          replace O_b4 := O_b4.ext e6
          refine run_cond_t rfl ?_
          refine run_region ?_
          refine ov (xmove rfl) rfl rfl rfl ?_
          refine ov (xfieldAddr fo27f2 rfl) rfl rfl rfl ?_
          refine ostore1 Tryd.sizeOf2 rfl rfl O_b4 (by simp) rfl rfl ?_
          intro w7 on7 O7
          have hz7 := on7.size
          have E := on7.ext E (by omega)
          replace G10 := G10.only on7 (by omega)
          replace O_b1 := on7.own O_b1 (by omega)
          replace O7 : Own w7 b4 [.int .i64 (sval p0).1, .string p1, .int .i64 (k : Int)] 27 := O7
          refine ops_nil ?_
          refine run_inBlock ?_
          refine run_region ?_
          refine ov (xmove rfl) rfl rfl rfl ?_
          refine ov (xadd rfl rfl (by unfold I64; omega)) rfl rfl rfl ?_
          refine ov (xassign rfl) rfl rfl rfl ?_
          refine ops_nil ?_
          refine run_sub ?_ (hback7 (k + 1, (k : Int), w7) (⟨E, O_b1, O7, G10, by omega, by omega, (by rw [kfind, if_pos c36])⟩) (by first | omega | (dsimp only; omega)))
          exact ⟨rfl, rfl, rfl, rfl, rfl, trivial⟩
        ·
          refine q_nil ?_
          intro w6 e6
          have z6 := e6.size
          have E := E.trans e6
          replace G10 := G10.ext e6
          replace O_b1 := O_b1.ext e6
          replace O_b4 := O_b4.ext e6
          refine run_cond_f rfl ?_
          refine run_skip ?_
          refine run_inBlock ?_
          refine run_region ?_
          refine ov (xmove rfl) rfl rfl rfl ?_
          refine ov (xadd rfl rfl (by unfold I64; omega)) rfl rfl rfl ?_
          refine ov (xassign rfl) rfl rfl rfl ?_
          refine ops_nil ?_
          refine run_sub ?_ (hback7 (k + 1, kd, w6) (⟨E, O_b1, O_b4, G10, by omega, by omega, (by rw [kfind, if_neg c36]; exact hkd)⟩) (by first | omega | (dsimp only; omega)))
          exact ⟨rfl, rfl, rfl, rfl, rfl, trivial⟩
      ·
        refine ops_nil ?_
        refine run_cond_f rfl ?_
        refine run_exit rfl ?_
        refine run_seq ?_
        refine run_seq ?_
        refine run_region ?_
        refine ov (xmove rfl) rfl rfl rfl ?_
        refine ov (xnot rfl) rfl rfl rfl ?_
        refine ov (xmove rfl) rfl rfl rfl ?_
        refine ov (v := .agg #[.int .i64 (sval p0).1, .string p1, .int .i64 kd]) (xloadN Tryd.isAgg27 Tryd.sizeOf27 rfl (O_b4.cells) rfl) rfl rfl rfl ?_
        refine oc (xcall Tryd.call16 rfl) rfl rfl rfl (l25Is_ok ⟨(sval p0).1, p1, kd⟩ _ (by show p1.size ≤ _; omega)) ?_
        rintro _ w6 ⟨rfl, e6⟩
        have z6 := e6.size
        have E := E.trans e6
        replace G10 := G10.ext e6
        replace O_b1 := O_b1.ext e6
        replace O_b4 := O_b4.ext e6
        refine obs (fun c43 => ?_) (fun c43 => ?_)
        ·
          refine ov (xnot rfl) rfl rfl rfl ?_
          refine ov (xpick_f rfl rfl) rfl rfl rfl ?_
          refine ops_nil ?_
          refine run_cond_f rfl ?_
          refine run_skip ?_
          refine run_seq ?_
          refine run_region ?_
          refine ov (v := .agg #[.int .i64 (sval p0).1, .string p1, .int .i64 kd]) (xloadN Tryd.isAgg27 Tryd.sizeOf27 rfl (O_b4.cells) rfl) rfl rfl rfl ?_
          refine ostoreN (vs := _) Tryd.sizeOf27 rfl rfl O_b1 rfl (by simp) (by simp [Value.oneCell']) rfl ?_
          intro w7 on7 O7
          have hz7 := on7.size
          have E := on7.ext E (by omega)
          replace G10 := G10.only on7 (by omega)
          replace O_b4 := on7.own O_b4 (by omega)
          replace O7 : Own w7 b1 [.int .i64 (sval p0).1, .string p1, .int .i64 kd] 27 := O7
          refine ov (xassign rfl) rfl rfl rfl ?_
          refine ops_nil ?_
          refine run_ret Tryd.func10 (resc2 rfl rfl (run_loadVar_cells Tryd.isAgg27 Tryd.sizeOf27 O7.cells rfl) rfl) ?_
          have hy := spec_yes (kd := kd) hp3 (by rw [hkd, show k = 4 from by omega]) (by assumption) (by assumption)
          exact ⟨_, rfl, by rw [readR_t hy]; try rfl, E⟩
        ·
          refine ov (xnot rfl) rfl rfl rfl ?_
          refine ov (xpick_f rfl rfl) rfl rfl rfl ?_
          refine ops_nil ?_
          refine run_cond_t rfl ?_
          refine run_seq ?_
          refine run_region ?_
          refine ov (xbuild (vs := []) (cells := #[.int .i64 0, .string ⟨#[]⟩, .int .i64 0]) rfl (by kernel_rfl)) rfl rfl rfl ?_
          refine ostoreN (vs := _) Tryd.sizeOf27 rfl rfl O_b1 rfl (by simp) (by simp [Value.oneCell']) rfl ?_
          intro w7 on7 O7
          have hz7 := on7.size
          have E := on7.ext E (by omega)
          replace G10 := G10.only on7 (by omega)
          replace O_b4 := on7.own O_b4 (by omega)
          replace O7 : Own w7 b1 [.int .i64 0, .string ⟨#[]⟩, .int .i64 0] 27 := O7
          refine ov (xassign rfl) rfl rfl rfl ?_
          refine ops_nil ?_
          refine run_ret Tryd.func10 (resc2 rfl rfl (run_loadVar_cells Tryd.isAgg27 Tryd.sizeOf27 O7.cells rfl) rfl) ?_
          have hno := spec_no (kd := kd) hp3 (by rw [hkd, show k = 4 from by omega]) (fun h_ => by exact Bool.false_ne_true (c43.symm.trans h_.2))
          exact ⟨_, rfl, by rw [readR_f hno]; try rfl, E⟩
    ·
      refine ov (xassign rfl) rfl rfl rfl ?_
      refine ov (xassign rfl) rfl rfl rfl ?_
      refine ops_nil ?_
      refine run_seq ?_
      refine run_region ?_
      refine ov (xmove rfl) rfl rfl rfl ?_
      refine ov (xmove rfl) rfl rfl rfl ?_
      have h24 := (G10.sl).at (i := 1) (by omega)
      refine ov (xindexN (i := 1) Tryd.underlying41 Tryd.sizeOf9 rfl rfl rfl ((G10.sl).p (i := 1) (by omega)) (by have := (G10.sl).len; omega)) rfl rfl rfl ?_
      refine ov (v := .string p1) (xloadz Tryd.isAgg9 rfl (h24) rfl) rfl rfl rfl ?_
      refine ov (xbuild (vs := [.int .i64 (sval p0).1, .string p1, .int .i64 (-1)]) (cells := #[.int .i64 (sval p0).1, .string p1, .int .i64 (-1)]) rfl (by kernel_rfl)) rfl rfl rfl ?_
      refine oalloc Tryd.zeroValue27 rfl rfl ?_
      intro b4 w4 e4 hb4 hz4 O4
      have E := E.trans e4
      replace G10 := G10.ext e4
      replace O1 := O1.ext e4
      replace O4 : Own w4 b4 [.int .i64 0, .string ⟨#[]⟩, .int .i64 0] 27 := O4
      refine ostoreN (vs := _) Tryd.sizeOf27 rfl rfl O4 rfl (by simp) (by simp [Value.oneCell']) rfl ?_
      intro w5 on5 O5
      have hz5 := on5.size
      have E := on5.ext E (by omega)
      replace G10 := G10.only on5 (by omega)
      replace O1 := on5.own O1 (by omega)
      replace O5 : Own w5 b4 [.int .i64 (sval p0).1, .string p1, .int .i64 (-1)] 27 := O5
      refine ops_nil ?_
      refine run_seq ?_
      refine run_seq ?_
      refine run_region ?_
      refine ov (xassign rfl) rfl rfl rfl ?_
      refine ops_nil ?_
      refine run_block ?_
      refine run_loop (ι := Nat × Int × World) (fun x_ => match x_ with | (k, kd, wr) => (Ext w wr) ∧ (Own wr b1 ([.int .i64 0, .string ⟨#[]⟩, .int .i64 0]) 27) ∧ (Own wr b4 ([.int .i64 (sval p0).1, .string p1, .int .i64 kd]) 27) ∧ (Ow strc 1 9 wr w1.heap.size w2.heap.size q10 m10 d10 [p0, p1, p2]) ∧ (w5.heap.size ≤ wr.heap.size) ∧ (k ≤ 4) ∧ (kd = kfind p2 k)) (fun x_ => match x_ with | (k, kd, wr) => [(2, .pointer (some ⟨b1, 0, none⟩)), (4, .slice q10 m10 d10), (6, .bool false), (7, .pointer (some ⟨b4, 0, none⟩)), (8, .int .i64 (k : Int))]) (fun x_ => match x_ with | (k, kd, wr) => wr) (fun x_ => match x_ with | (k, kd, wr) => 4 - k) ?_ (0, -1, w5) (⟨E, O1, O5, G10, Nat.le_refl _, by omega, rfl⟩) ⟨rfl, rfl, rfl, rfl, rfl, trivial⟩ rfl
      intro i_ hI_ hback7
      obtain ⟨k, kd, wr⟩ := i_
      obtain ⟨E, O_b1, O_b4, G10, lz_wr, hk, hkd⟩ := hI_
      try dsimp only
      have zr := E.size
      have lt_b1 := O_b1.lt
      have lt_b4 := O_b4.lt
      refine run_seq ?_
      refine run_seq ?_
      refine run_region ?_
      refine ov (xmove rfl) rfl rfl rfl ?_
      refine ov (xlss rfl rfl _ rfl) rfl rfl rfl ?_
      refine ods (fun c28 => ?_) (fun c28 => ?_)
      ·
        refine ops_nil ?_
        refine run_cond_t rfl ?_
        refine run_skip ?_
        refine run_seq ?_
        refine run_block ?_
        refine run_seq ?_
        refine run_draw (by kernel_rfl) (by kernel_rfl) ?_
        refine qv (fun w' x_ => xmove rfl) rfl rfl rfl ?_
        have t32 := fun (w' : World) (x_ : Ext wr w') => Ret.q (w := w') (l25Word_ok (k : Int) _ (by omega) (by omega))
        refine qc (fun w' => xcall Tryd.call23 rfl) rfl rfl rfl t32 ?_
        clear t32
        refine qv (fun w' x_ => xmove rfl) rfl rfl rfl ?_
        have h34 := (G10.sl).at (i := 2) (by omega)
        refine qv (fun w' x_ => xindexN (i := 2) Tryd.underlying41 Tryd.sizeOf9 rfl rfl rfl ((G10.sl).p (i := 2) (by omega)) (by have := (G10.sl).len; omega)) rfl rfl rfl ?_
        refine qv (v := .string p2) (fun w' x_ => xloadz Tryd.isAgg9 rfl ((h34).ext x_) rfl) rfl rfl rfl ?_
        refine qv (fun w' x_ => xseql rfl rfl _ rfl) rfl rfl rfl ?_
        refine qds (fun c36 => ?_) (fun c36 => ?_)
        ·
          refine q_nil ?_
          intro w6 e6
          have z6 := e6.size
          have E := E.trans e6
          replace G10 := G10.ext e6
          replace O_b1 := O_b1.ext e6
          replace O_b4 := O_b4.ext e6
          refine run_cond_t rfl ?_
          refine run_region ?_
          refine ov (xmove rfl) rfl rfl rfl ?_
          refine ov (xfieldAddr fo27f2 rfl) rfl rfl rfl ?_
          refine ostore1 Tryd.sizeOf2 rfl rfl O_b4 (by simp) rfl rfl ?_
          intro w7 on7 O7
          have hz7 := on7.size
          have E := on7.ext E (by omega)
          replace G10 := G10.only on7 (by omega)
          replace O_b1 := on7.own O_b1 (by omega)
          replace O7 : Own w7 b4 [.int .i64 (sval p0).1, .string p1, .int .i64 (k : Int)] 27 := O7
          refine ops_nil ?_
          refine run_inBlock ?_
          refine run_region ?_
          refine ov (xmove rfl) rfl rfl rfl ?_
          refine ov (xadd rfl rfl (by unfold I64; omega)) rfl rfl rfl ?_
          refine ov (xassign rfl) rfl rfl rfl ?_
          refine ops_nil ?_
          refine run_sub ?_ (hback7 (k + 1, (k : Int), w7) (⟨E, O_b1, O7, G10, by omega, by omega, (by rw [kfind, if_pos c36])⟩) (by first | omega | (dsimp only; omega)))
          exact ⟨rfl, rfl, rfl, rfl, rfl, trivial⟩
        ·
          refine q_nil ?_
          intro w6 e6
          have z6 := e6.size
          have E := E.trans e6
          replace G10 := G10.ext e6
          replace O_b1 := O_b1.ext e6
          replace O_b4 := O_b4.ext e6
          refine run_cond_f rfl ?_
          refine run_skip ?_
          refine run_inBlock ?_
          refine run_region ?_
          refine ov (xmove rfl) rfl rfl rfl ?_
          refine ov (xadd rfl rfl (by unfold I64; omega)) rfl rfl rfl ?_
          refine ov (xassign rfl) rfl rfl rfl ?_
          refine ops_nil ?_
          refine run_sub ?_ (hback7 (k + 1, kd, w6) (⟨E, O_b1, O_b4, G10, by omega, by omega, (by rw [kfind, if_neg c36]; exact hkd)⟩) (by first | omega | (dsimp only; omega)))
          exact ⟨rfl, rfl, rfl, rfl, rfl, trivial⟩
      ·
        refine ops_nil ?_
        refine run_cond_f rfl ?_
        refine run_exit rfl ?_
        refine run_seq ?_
        refine run_seq ?_
        refine run_region ?_
        refine ov (xmove rfl) rfl rfl rfl ?_
        refine ov (xnot rfl) rfl rfl rfl ?_
        refine ov (xmove rfl) rfl rfl rfl ?_
        refine og rfl rfl rfl ?_
        refine og rfl rfl rfl ?_
        refine og rfl rfl rfl ?_
        refine ov (xpick_t rfl rfl) rfl rfl rfl ?_
        refine ops_nil ?_
        refine run_cond_t rfl ?_
        refine run_seq ?_
        refine run_region ?_
        refine ov (xbuild (vs := []) (cells := #[.int .i64 0, .string ⟨#[]⟩, .int .i64 0]) rfl (by kernel_rfl)) rfl rfl rfl ?_
        refine ostoreN (vs := _) Tryd.sizeOf27 rfl rfl O_b1 rfl (by simp) (by simp [Value.oneCell']) rfl ?_
        intro w6 on6 O6
        have hz6 := on6.size
        have E := on6.ext E (by omega)
        replace G10 := G10.only on6 (by omega)
        replace O_b4 := on6.own O_b4 (by omega)
        replace O6 : Own w6 b1 [.int .i64 0, .string ⟨#[]⟩, .int .i64 0] 27 := O6
        refine ov (xassign rfl) rfl rfl rfl ?_
        refine ops_nil ?_
        refine run_ret Tryd.func10 (resc2 rfl rfl (run_loadVar_cells Tryd.isAgg27 Tryd.sizeOf27 O6.cells rfl) rfl) ?_
        have hno := spec_no (kd := kd) hp3 (by rw [hkd, show k = 4 from by omega]) (fun h_ => by exact Bool.false_ne_true (c21.symm.trans h_.1))
        exact ⟨_, rfl, by rw [readR_f hno]; try rfl, E⟩

set_option maxHeartbeats 1000000 in
theorem ReadRuling_ok (s : ByteArray) (w : World) (hs : s.size ≤ 1048576) (hD : Dl w) : Ret Tryd.prog 11 [.string s] w (Pv w (.tuple #[.agg #[.int .i64 (readR s).1.Day, .string (readR s).1.Code, .int .i64 (readR s).1.Kind], .int .i64 (readR s).2])) := by
  refine ret_of_run (N := 47) Tryd.func11 rfl rfl rfl ?_
  have E : Ext w w := Ext.refl w
  refine run_seq ?_
  refine run_region ?_
  refine oalloc Tryd.zeroValue27 rfl rfl ?_
  intro b1 w1 e1 hb1 hz1 O1
  have E := E.trans e1
  replace O1 : Own w1 b1 [.int .i64 0, .string ⟨#[]⟩, .int .i64 0] 27 := O1
  refine ov (xassign rfl) rfl rfl rfl ?_
  refine ops_nil ?_
  refine run_seq ?_
  refine run_region ?_
  refine ov (xmove rfl) rfl rfl rfl ?_
  refine oc (xcall Tryd.call24 rfl) rfl rfl rfl (Split_ok s _ hs (hD.ext E)) ?_
  rintro _ w2 ⟨e2, q10, m10, d10, rfl, G10⟩
  have z2 := e2.size
  have E := E.trans e2
  replace O1 := O1.ext e2
  have lG10 := G10.len
  refine ov (xassign rfl) rfl rfl rfl ?_
  refine ops_nil ?_
  refine run_seq ?_
  refine run_seq ?_
  refine run_region ?_
  refine ov (xmove rfl) rfl rfl rfl ?_
  refine ov (xlen Tryd.underlying41 rfl) rfl rfl rfl ?_
  refine ov (xneq rfl rfl _ rfl) rfl rfl rfl ?_
  refine ods (fun c13 => ?_) (fun c13 => ?_)
  ·
    refine ops_nil ?_
    refine run_cond_t rfl ?_
    refine run_seq ?_
    refine run_region ?_
    refine ov (xbuild (vs := []) (cells := #[.int .i64 0, .string ⟨#[]⟩, .int .i64 0]) rfl (by kernel_rfl)) rfl rfl rfl ?_
    refine ostoreN (vs := _) Tryd.sizeOf27 rfl rfl O1 rfl (by simp) (by simp [Value.oneCell']) rfl ?_
    intro w3 on3 O3
    have hz3 := on3.size
    have E := on3.ext E (by omega)
    replace G10 := G10.only on3 (by omega)
    replace O3 : Own w3 b1 [.int .i64 0, .string ⟨#[]⟩, .int .i64 0] 27 := O3
    refine ov (xassign rfl) rfl rfl rfl ?_
    refine ops_nil ?_
    refine run_ret Tryd.func11 (resc2 rfl rfl (run_loadVar_cells Tryd.isAgg27 Tryd.sizeOf27 O3.cells rfl) rfl) ?_
    exact ⟨_, rfl, by rw [readR_f (reads_not3 (by omega))]; try rfl, E⟩
  ·
    refine ops_nil ?_
    refine run_cond_f rfl ?_
    refine run_skip ?_
    refine run_seq ?_
    refine run_region ?_
    obtain ⟨p0, p1, p2, hp3⟩ := three (xs := cutBs 47 s) (by omega)
    obtain ⟨hz0, hz1, hz2⟩ := cut3 hp3
    rw [hp3] at G10 lG10
    refine ov (xmove rfl) rfl rfl rfl ?_
    have h17 := (G10.sl).at (i := 0) (by omega)
    refine ov (xindexN (i := 0) Tryd.underlying41 Tryd.sizeOf9 rfl rfl rfl ((G10.sl).p (i := 0) (by omega)) (by have := (G10.sl).len; omega)) rfl rfl rfl ?_
    refine ov (v := .string p0) (xloadz Tryd.isAgg9 rfl (h17) rfl) rfl rfl rfl ?_
    refine oc (xcall Tryd.call25 rfl) rfl rfl rfl (readDecimal_ok p0 _ (by omega) (hD.ext E)) ?_
    rintro _ w3 ⟨rfl, e3⟩
    have z3 := e3.size
    have E := E.trans e3
    replace G10 := G10.ext e3
    replace O1 := O1.ext e3
    refine ov (xmove rfl) rfl rfl rfl ?_
    refine ov (xextract rfl rfl) rfl rfl rfl ?_
    refine ov (xextract rfl rfl) rfl rfl rfl ?_
    refine obs (fun c21 => ?_) (fun c21 => ?_)
    ·
      refine ov (xassign rfl) rfl rfl rfl ?_
      refine ov (xassign rfl) rfl rfl rfl ?_
      refine ops_nil ?_
      refine run_seq ?_
      refine run_seq ?_
      refine run_region ?_
      refine ov (xassign rfl) rfl rfl rfl ?_
      refine ops_nil ?_
      refine run_block ?_
      refine run_loop (ι := Nat × World) (fun x_ => match x_ with | (k, wr) => (Ext w wr) ∧ (Own wr b1 ([.int .i64 0, .string ⟨#[]⟩, .int .i64 0]) 27) ∧ (Ow strc 1 9 wr w1.heap.size w2.heap.size q10 m10 d10 [p0, p1, p2]) ∧ (w3.heap.size ≤ wr.heap.size) ∧ (k ≤ 4) ∧ (∀ j : Nat, j < k → ¬ (kword (j : Int) = p2 ∧ isRuling ⟨(rdec p0).1, p1, (j : Int)⟩ = true))) (fun x_ => match x_ with | (k, wr) => [(2, .pointer (some ⟨b1, 0, none⟩)), (4, .slice q10 m10 d10), (5, .int .i64 (rdec p0).1), (6, .bool true), (7, .int .i64 (k : Int))]) (fun x_ => match x_ with | (k, wr) => wr) (fun x_ => match x_ with | (k, wr) => 4 - k) ?_ (0, w3) (⟨E, O1, G10, Nat.le_refl _, by omega, (fun j hj => absurd hj (Nat.not_lt_zero j))⟩) ⟨rfl, rfl, rfl, rfl, rfl, trivial⟩ rfl
      intro i_ hI_ hback6
      obtain ⟨k, wr⟩ := i_
      obtain ⟨E, O_b1, G10, lz_wr, hk, ha⟩ := hI_
      try dsimp only
      have zr := E.size
      have lt_b1 := O_b1.lt
      refine run_seq ?_
      refine run_seq ?_
      refine run_region ?_
      refine ov (xmove rfl) rfl rfl rfl ?_
      refine ov (xleq rfl rfl _ rfl) rfl rfl rfl ?_
      refine ods (fun c23 => ?_) (fun c23 => ?_)
      ·
        refine ov (xmove rfl) rfl rfl rfl ?_
        refine ov (xmove rfl) rfl rfl rfl ?_
        refine ov (xpick_t rfl rfl) rfl rfl rfl ?_
        refine ops_nil ?_
        refine run_cond_t rfl ?_
        refine run_skip ?_
        refine run_seq ?_
        refine run_block ?_
        refine run_seq ?_
        refine run_region ?_
        refine ov (xmove rfl) rfl rfl rfl ?_
        refine ov (xmove rfl) rfl rfl rfl ?_
        have h31 := (G10.sl).at (i := 1) (by omega)
        refine ov (xindexN (i := 1) Tryd.underlying41 Tryd.sizeOf9 rfl rfl rfl ((G10.sl).p (i := 1) (by omega)) (by have := (G10.sl).len; omega)) rfl rfl rfl ?_
        refine ov (v := .string p1) (xloadz Tryd.isAgg9 rfl (h31) rfl) rfl rfl rfl ?_
        refine ov (xmove rfl) rfl rfl rfl ?_
        refine ov (xbuild (vs := [.int .i64 (rdec p0).1, .string p1, .int .i64 (k : Int)]) (cells := #[.int .i64 (rdec p0).1, .string p1, .int .i64 (k : Int)]) rfl (by kernel_rfl)) rfl rfl rfl ?_
        refine oalloc Tryd.zeroValue27 rfl rfl ?_
        intro b4 w4 e4 hb4 hz4 O4
        have E := E.trans e4
        replace G10 := G10.ext e4
        replace O_b1 := O_b1.ext e4
        replace O4 : Own w4 b4 [.int .i64 0, .string ⟨#[]⟩, .int .i64 0] 27 := O4
        refine ostoreN (vs := _) Tryd.sizeOf27 rfl rfl O4 rfl (by simp) (by simp [Value.oneCell']) rfl ?_
        intro w5 on5 O5
        have hz5 := on5.size
        have E := on5.ext E (by omega)
        replace G10 := G10.only on5 (by omega)
        replace O_b1 := on5.own O_b1 (by omega)
        replace O5 : Own w5 b4 [.int .i64 (rdec p0).1, .string p1, .int .i64 (k : Int)] 27 := O5
        refine ops_nil ?_
        refine run_seq ?_
        refine run_draw (by kernel_rfl) (by kernel_rfl) ?_
        refine qv (fun w' x_ => xmove rfl) rfl rfl rfl ?_
        have t36 := fun (w' : World) (x_ : Ext w5 w') => Ret.q (w := w') (kindWord_ok (k : Int) _ (by omega) (by omega))
        refine qc (fun w' => xcall Tryd.call20 rfl) rfl rfl rfl t36 ?_
        clear t36
        refine qv (fun w' x_ => xmove rfl) rfl rfl rfl ?_
        have h38 := (G10.sl).at (i := 2) (by omega)
        refine qv (fun w' x_ => xindexN (i := 2) Tryd.underlying41 Tryd.sizeOf9 rfl rfl rfl ((G10.sl).p (i := 2) (by omega)) (by have := (G10.sl).len; omega)) rfl rfl rfl ?_
        refine qv (v := .string p2) (fun w' x_ => xloadz Tryd.isAgg9 rfl ((h38).ext x_) rfl) rfl rfl rfl ?_
        refine qv (fun w' x_ => xseql rfl rfl _ rfl) rfl rfl rfl ?_
        refine qds (fun c40 => ?_) (fun c40 => ?_)
        ·
          refine qv (fun w' x_ => xmove rfl) rfl rfl rfl ?_
          refine qv (v := .agg #[.int .i64 (rdec p0).1, .string p1, .int .i64 (k : Int)]) (fun w' x_ => xloadN Tryd.isAgg27 Tryd.sizeOf27 rfl ((O5.cells).ext x_) rfl) rfl rfl rfl ?_
          have t43 := fun (w' : World) (x_ : Ext w5 w') => Ret.q (w := w') (isRuling_ok ⟨(rdec p0).1, p1, (k : Int)⟩ _ (by show p1.size ≤ _; omega))
          refine qc (fun w' => xcall Tryd.call18 rfl) rfl rfl rfl t43 ?_
          clear t43
          refine qbs (fun c43 => ?_) (fun c43 => ?_)
          ·
            refine qv (fun w' x_ => xpick_t rfl rfl) rfl rfl rfl ?_
            refine q_nil ?_
            intro w6 e6
            have z6 := e6.size
            have E := E.trans e6
            replace G10 := G10.ext e6
            replace O_b1 := O_b1.ext e6
            replace O5 := O5.ext e6
            refine run_cond_t rfl ?_
            refine run_seq ?_
            refine run_region ?_
            refine ov (v := .agg #[.int .i64 (rdec p0).1, .string p1, .int .i64 (k : Int)]) (xloadN Tryd.isAgg27 Tryd.sizeOf27 rfl (O5.cells) rfl) rfl rfl rfl ?_
            refine ostoreN (vs := _) Tryd.sizeOf27 rfl rfl O_b1 rfl (by simp) (by simp [Value.oneCell']) rfl ?_
            intro w7 on7 O7
            have hz7 := on7.size
            have E := on7.ext E (by omega)
            replace G10 := G10.only on7 (by omega)
            replace O5 := on7.own O5 (by omega)
            replace O7 : Own w7 b1 [.int .i64 (rdec p0).1, .string p1, .int .i64 (k : Int)] 27 := O7
            refine ov (xassign rfl) rfl rfl rfl ?_
            refine ops_nil ?_
            refine run_ret Tryd.func11 (resc2 rfl rfl (run_loadVar_cells Tryd.isAgg27 Tryd.sizeOf27 O7.cells rfl) rfl) ?_
            have hy := imp_yes (k := (k : Int)) hp3 c21 c40 c43
            exact ⟨_, rfl, by rw [readR_t hy]; try rfl, E⟩
          ·
            refine qv (fun w' x_ => xpick_t rfl rfl) rfl rfl rfl ?_
            refine q_nil ?_
            intro w6 e6
            have z6 := e6.size
            have E := E.trans e6
            replace G10 := G10.ext e6
            replace O_b1 := O_b1.ext e6
            replace O5 := O5.ext e6
            refine run_cond_f rfl ?_
            refine run_skip ?_
            refine run_inBlock ?_
            refine run_region ?_
            refine ov (xmove rfl) rfl rfl rfl ?_
            refine ov (xadd rfl rfl (by unfold I64; omega)) rfl rfl rfl ?_
            refine ov (xassign rfl) rfl rfl rfl ?_
            refine ops_nil ?_
            refine run_sub ?_ (hback6 (k + 1, w6) (⟨E, O_b1, G10, by omega, by omega, (step_no ha (by simp_all))⟩) (by first | omega | (dsimp only; omega)))
            exact ⟨rfl, rfl, rfl, rfl, rfl, trivial⟩
        ·
          refine qv (fun w' x_ => xmove rfl) rfl rfl rfl ?_
          refine qg rfl rfl rfl ?_
          refine qg rfl rfl rfl ?_
          refine qv (fun w' x_ => xpick_f rfl rfl) rfl rfl rfl ?_
          refine q_nil ?_
          intro w6 e6
          have z6 := e6.size
          have E := E.trans e6
          replace G10 := G10.ext e6
          replace O_b1 := O_b1.ext e6
          replace O5 := O5.ext e6
          refine run_cond_f rfl ?_
          refine run_skip ?_
          refine run_inBlock ?_
          refine run_region ?_
          refine ov (xmove rfl) rfl rfl rfl ?_
          refine ov (xadd rfl rfl (by unfold I64; omega)) rfl rfl rfl ?_
          refine ov (xassign rfl) rfl rfl rfl ?_
          refine ops_nil ?_
          refine run_sub ?_ (hback6 (k + 1, w6) (⟨E, O_b1, G10, by omega, by omega, (step_no ha (by simp_all))⟩) (by first | omega | (dsimp only; omega)))
          exact ⟨rfl, rfl, rfl, rfl, rfl, trivial⟩
      ·
        refine ov (xmove rfl) rfl rfl rfl ?_
        refine og rfl rfl rfl ?_
        refine ov (xpick_f rfl rfl) rfl rfl rfl ?_
        refine ops_nil ?_
        refine run_cond_f rfl ?_
        refine run_exit rfl ?_
        refine run_seq ?_
        refine run_region ?_
        refine ov (xbuild (vs := []) (cells := #[.int .i64 0, .string ⟨#[]⟩, .int .i64 0]) rfl (by kernel_rfl)) rfl rfl rfl ?_
        refine ostoreN (vs := _) Tryd.sizeOf27 rfl rfl O_b1 rfl (by simp) (by simp [Value.oneCell']) rfl ?_
        intro w4 on4 O4
        have hz4 := on4.size
        have E := on4.ext E (by omega)
        replace G10 := G10.only on4 (by omega)
        replace O4 : Own w4 b1 [.int .i64 0, .string ⟨#[]⟩, .int .i64 0] 27 := O4
        refine ov (xassign rfl) rfl rfl rfl ?_
        refine ops_nil ?_
        refine run_ret Tryd.func11 (resc2 rfl rfl (run_loadVar_cells Tryd.isAgg27 Tryd.sizeOf27 O4.cells rfl) rfl) ?_
        have hno := imp_no hp3 (.inr (fun j hj => ha j (by omega)))
        exact ⟨_, rfl, by rw [readR_f hno]; try rfl, E⟩
    ·
      refine ov (xassign rfl) rfl rfl rfl ?_
      refine ov (xassign rfl) rfl rfl rfl ?_
      refine ops_nil ?_
      refine run_seq ?_
      refine run_seq ?_
      refine run_region ?_
      refine ov (xassign rfl) rfl rfl rfl ?_
      refine ops_nil ?_
      refine run_block ?_
      refine run_loop (ι := Nat × World) (fun x_ => match x_ with | (k, wr) => (Ext w wr) ∧ (Own wr b1 ([.int .i64 0, .string ⟨#[]⟩, .int .i64 0]) 27) ∧ (Ow strc 1 9 wr w1.heap.size w2.heap.size q10 m10 d10 [p0, p1, p2]) ∧ (w3.heap.size ≤ wr.heap.size) ∧ (k ≤ 4) ∧ (∀ j : Nat, j < k → ¬ (kword (j : Int) = p2 ∧ isRuling ⟨(rdec p0).1, p1, (j : Int)⟩ = true))) (fun x_ => match x_ with | (k, wr) => [(2, .pointer (some ⟨b1, 0, none⟩)), (4, .slice q10 m10 d10), (5, .int .i64 (rdec p0).1), (6, .bool false), (7, .int .i64 (k : Int))]) (fun x_ => match x_ with | (k, wr) => wr) (fun x_ => match x_ with | (k, wr) => 4 - k) ?_ (0, w3) (⟨E, O1, G10, Nat.le_refl _, by omega, (fun j hj => absurd hj (Nat.not_lt_zero j))⟩) ⟨rfl, rfl, rfl, rfl, rfl, trivial⟩ rfl
      intro i_ hI_ hback6
      obtain ⟨k, wr⟩ := i_
      obtain ⟨E, O_b1, G10, lz_wr, hk, ha⟩ := hI_
      try dsimp only
      have zr := E.size
      have lt_b1 := O_b1.lt
      refine run_seq ?_
      refine run_seq ?_
      refine run_region ?_
      refine ov (xmove rfl) rfl rfl rfl ?_
      refine ov (xleq rfl rfl _ rfl) rfl rfl rfl ?_
      refine ods (fun c23 => ?_) (fun c23 => ?_)
      ·
        refine ov (xmove rfl) rfl rfl rfl ?_
        refine ov (xmove rfl) rfl rfl rfl ?_
        refine ov (xpick_t rfl rfl) rfl rfl rfl ?_
        refine ops_nil ?_
        refine run_cond_f rfl ?_
        refine run_exit rfl ?_
        refine run_seq ?_
        refine run_region ?_
        refine ov (xbuild (vs := []) (cells := #[.int .i64 0, .string ⟨#[]⟩, .int .i64 0]) rfl (by kernel_rfl)) rfl rfl rfl ?_
        refine ostoreN (vs := _) Tryd.sizeOf27 rfl rfl O_b1 rfl (by simp) (by simp [Value.oneCell']) rfl ?_
        intro w4 on4 O4
        have hz4 := on4.size
        have E := on4.ext E (by omega)
        replace G10 := G10.only on4 (by omega)
        replace O4 : Own w4 b1 [.int .i64 0, .string ⟨#[]⟩, .int .i64 0] 27 := O4
        refine ov (xassign rfl) rfl rfl rfl ?_
        refine ops_nil ?_
        refine run_ret Tryd.func11 (resc2 rfl rfl (run_loadVar_cells Tryd.isAgg27 Tryd.sizeOf27 O4.cells rfl) rfl) ?_
        have hno := imp_no hp3 (.inl c21)
        exact ⟨_, rfl, by rw [readR_f hno]; try rfl, E⟩
      ·
        refine ov (xmove rfl) rfl rfl rfl ?_
        refine og rfl rfl rfl ?_
        refine ov (xpick_f rfl rfl) rfl rfl rfl ?_
        refine ops_nil ?_
        refine run_cond_f rfl ?_
        refine run_exit rfl ?_
        refine run_seq ?_
        refine run_region ?_
        refine ov (xbuild (vs := []) (cells := #[.int .i64 0, .string ⟨#[]⟩, .int .i64 0]) rfl (by kernel_rfl)) rfl rfl rfl ?_
        refine ostoreN (vs := _) Tryd.sizeOf27 rfl rfl O_b1 rfl (by simp) (by simp [Value.oneCell']) rfl ?_
        intro w4 on4 O4
        have hz4 := on4.size
        have E := on4.ext E (by omega)
        replace G10 := G10.only on4 (by omega)
        replace O4 : Own w4 b1 [.int .i64 0, .string ⟨#[]⟩, .int .i64 0] 27 := O4
        refine ov (xassign rfl) rfl rfl rfl ?_
        refine ops_nil ?_
        refine run_ret Tryd.func11 (resc2 rfl rfl (run_loadVar_cells Tryd.isAgg27 Tryd.sizeOf27 O4.cells rfl) rfl) ?_
        have hno := imp_no hp3 (.inl c21)
        exact ⟨_, rfl, by rw [readR_f hno]; try rfl, E⟩
end Go.Proofs.YtnjohcbamblilaaDoor
