/-
  Juries: the walks. No condition beyond those written in each theorem.
-/
import Derived.Test.YtchblgaklknkcaaGreatPlay12
import Derived.Test.YtchblgaklknkcaaGreatFormLaw
namespace Go.Proofs.YtchblgaklknkcaaGreat
open Go.RowKit
set_option linter.unusedVariables false
set_option linter.unusedSimpArgs false
set_option linter.unusedSectionVars false
set_option maxRecDepth 4000
theorem sw_2 {x : Pan} {m a : Int} (hP : isPan x = true) (h : inR 1 12 m = false ∨ inR 0 6 a = false) : swear x m a = (noJur, 2) := by rw [swear, if_neg (by simp [hP]), if_pos h]
theorem sw_5 {x : Pan} {m a : Int} (hP : isPan x = true) (h1 : inR 1 12 m = true) (h2 : inR 0 6 a = true) (h : ((seatedL x.S).length : Int) < m + a) : swear x m a = (noJur, 5) := by
 rw [swear, if_neg (by simp [hP]), if_neg (by simp [h1, h2]), if_pos h]
theorem sw_0 {x : Pan} {m a : Int} (hP : isPan x = true) (h1 : inR 1 12 m = true) (h2 : inR 0 6 a = true) (h : ¬ ((seatedL x.S).length : Int) < m + a) : swear x m a = (⟨(seatedL x.S).take m.toNat, ((seatedL x.S).take (m + a).toNat).drop m.toNat, []⟩, 0) := by
 have h3 := inR_iff.1 h1; have h4 := inR_iff.1 h2
 rw [swear, if_neg (by simp [hP]), if_neg (by simp [h1, h2]), if_neg h, List.drop_take, show (m + a).toNat - m.toNat = a.toNat by omega]
set_option maxHeartbeats 1000000 in
theorem SwearJury_ok (u1 : Option Addr) (n1 v1 : Nat) (u2 : Option Addr) (n2 v2 : Nat) (u3 : Option Addr) (n3 v3 : Nat) (x : Pan) (m a : Int) (w : World) (H1 : Sl i64c 1 w u1 n1 v1 x.S) (H2 : Sl i64c 1 w u2 n2 v2 x.W) (H3 : Sl i64c 1 w u3 n3 v3 x.G) (hP : isPan x = true) : Ret Tryz.prog 52 [.agg #[.slice u1 n1 v1, .slice u2 n2 v2, .slice u3 n3 v3], .int .i64 m, .int .i64 a] w (fun v w' => Ext w w' ∧ ∃ (q1 : Option Addr) (m1 d1 : Nat) (q2 : Option Addr) (m2 d2 : Nat) (q3 : Option Addr) (m3 d3 : Nat), v = .tuple #[.agg #[.slice q1 m1 d1, .slice q2 m2 d2, .slice q3 m3 d3], .int .i64 ((swear x m a).2)] ∧ SlF i64c 1 w' w.heap.size w'.heap.size q1 m1 d1 ((swear x m a).1.S) ∧ SlF i64c 1 w' w.heap.size w'.heap.size q2 m2 d2 ((swear x m a).1.A) ∧ SlF i64c 1 w' w.heap.size w'.heap.size q3 m3 d3 ((swear x m a).1.L)) := by
 refine ret_of_run (N := 47) Tryz.func52 rfl rfl rfl ?_
 have hn1 := H1.len
 have hn2 := H2.len
 have hn3 := H3.len
 have hle := pan_le hP
 have E : Ext w w := Ext.refl w
 refine sr_ ?_
 refine obox rfl rfl rfl ?_
 intro b1 w1 e1 hb1 hz1 O1
 have E := E.trans e1
 replace O1 : Own w1 b1 [.slice u1 n1 v1, .slice u2 n2 v2, .slice u3 n3 v3] 79 := O1
 refine oalloc Tryz.zeroValue32 rfl rfl ?_
 intro b2 w2 e2 hb2 hz2 O2
 have E := E.trans e2
 replace O1 := O1.ext e2
 replace O2 : Own w2 b2 [.slice none 0 0, .slice none 0 0, .slice none 0 0] 32 := O2
 refine vn_ rfl rfl rfl ?_
 refine sr_ ?_
 refine oz_ (xfieldAddr fo79f0 rfl) rfl rfl ?_
 refine oz_ (v := .slice u1 n1 v1) (xload1 Tryz.isAgg24 rfl (O1.cells) rfl) rfl rfl ?_
 refine oc (xcall Tryz.call46 rfl) rfl rfl rfl (seated_ok _ _ _ _ _ (H1.ext E) (by omega)) ?_
 rintro _ w3 ⟨e3, q11, m11, d11, rfl, Q11⟩
 have z3 := e3.size
 have E := E.trans e3
 replace O1 := O1.ext e3
 replace O2 := O2.ext e3
 have lG11 := Q11.len
 refine vn_ rfl rfl rfl ?_
 refine run_seq ?_
 refine run_block ?_
 refine sr_ ?_
 refine oz_ (v := .agg #[.slice u1 n1 v1, .slice u2 n2 v2, .slice u3 n3 v3]) (xloadN Tryz.isAgg79 Tryz.sizeOf79 rfl (O1.cells) rfl) rfl rfl ?_
 refine oc (xcall Tryz.call96 rfl) rfl rfl rfl (IsPanel_ok _ _ _ _ _ _ _ _ _ x _ (H1.ext E) (H2.ext E) (H3.ext E) (by omega)) ?_
 rintro _ w4 ⟨rfl, e4⟩
 have z4 := e4.size
 have E := E.trans e4
 replace Q11 := Q11.ext e4
 replace O1 := O1.ext e4
 replace O2 := O2.ext e4
 refine obs (fun c14 => ?_) (fun c14 => ?_)
 rotate_left
 ·
  exfalso; rw [hP] at c14; cases c14
 refine oz_ (xnot rfl) rfl rfl ?_
 refine vn_ rfl rfl rfl ?_
 refine run_cond_f rfl ?_
 refine sr_ ?_
 refine vm_ rfl rfl rfl ?_
 refine oc (xcall Tryz.call42 rfl) rfl rfl rfl (isSeats_ok (m) _) ?_
 rintro _ w_ ⟨rfl, hw_⟩
 replace hw_ := hw_.symm
 subst hw_
 refine obs (fun c19 => ?_) (fun c19 => ?_)
 rotate_left
 ·
  refine oz_ (xnot rfl) rfl rfl ?_
  refine vm_ rfl rfl rfl ?_
  refine o2_ rfl rfl rfl rfl ?_
  refine og rfl rfl rfl ?_
  refine oz_ (xpick_t rfl rfl) rfl rfl ?_
  refine vn_ rfl rfl rfl ?_
  refine run_cond_t rfl ?_
  refine sr_ ?_
  refine oz_ (xbuild (vs := []) (cells := #[.slice none 0 0, .slice none 0 0, .slice none 0 0]) rfl (by kernel_rfl)) rfl rfl ?_
  refine ostoreN (vs := _) Tryz.sizeOf32 rfl rfl O2 rfl (by simp) (by simp [Value.oneCell']) rfl ?_
  intro w5 on5 O5
  have hz5 := on5.size
  have E := on5.ext E (by omega)
  replace O5 : Own w5 b2 [.slice none 0 0, .slice none 0 0, .slice none 0 0] 32 := O5
  refine vn_ rfl rfl rfl ?_
  refine run_ret Tryz.func52 (resc2 rfl rfl (run_loadVar_cells Tryz.isAgg32 Tryz.sizeOf32 O5.cells rfl) rfl) ?_
  have he := sw_2 (a := a) hP (.inl c19)
  exact ⟨_, rfl, E, _, _, _, _, _, _, _, _, _, by rw [he], by rw [he]; exact (SlF.nil0 _ _ _), by rw [he]; exact (SlF.nil0 _ _ _), by rw [he]; exact (SlF.nil0 _ _ _)⟩
 have hmr := inR_iff.1 c19
 refine oz_ (xnot rfl) rfl rfl ?_
 refine vm_ rfl rfl rfl ?_
 refine vm_ rfl rfl rfl ?_
 refine oc (xcall Tryz.call84 rfl) rfl rfl rfl (isAlternates_ok (a) _) ?_
 rintro _ w_ ⟨rfl, hw_⟩
 replace hw_ := hw_.symm
 subst hw_
 refine obs (fun c23 => ?_) (fun c23 => ?_)
 rotate_left
 ·
  refine oz_ (xnot rfl) rfl rfl ?_
  refine oz_ (xpick_f rfl rfl) rfl rfl ?_
  refine vn_ rfl rfl rfl ?_
  refine run_cond_t rfl ?_
  refine sr_ ?_
  refine oz_ (xbuild (vs := []) (cells := #[.slice none 0 0, .slice none 0 0, .slice none 0 0]) rfl (by kernel_rfl)) rfl rfl ?_
  refine ostoreN (vs := _) Tryz.sizeOf32 rfl rfl O2 rfl (by simp) (by simp [Value.oneCell']) rfl ?_
  intro w5 on5 O5
  have hz5 := on5.size
  have E := on5.ext E (by omega)
  replace O5 : Own w5 b2 [.slice none 0 0, .slice none 0 0, .slice none 0 0] 32 := O5
  refine vn_ rfl rfl rfl ?_
  refine run_ret Tryz.func52 (resc2 rfl rfl (run_loadVar_cells Tryz.isAgg32 Tryz.sizeOf32 O5.cells rfl) rfl) ?_
  have he := sw_2 (m := m) hP (.inr c23)
  exact ⟨_, rfl, E, _, _, _, _, _, _, _, _, _, by rw [he], by rw [he]; exact (SlF.nil0 _ _ _), by rw [he]; exact (SlF.nil0 _ _ _), by rw [he]; exact (SlF.nil0 _ _ _)⟩
 have har := inR_iff.1 c23
 refine oz_ (xnot rfl) rfl rfl ?_
 refine oz_ (xpick_f rfl rfl) rfl rfl ?_
 refine vn_ rfl rfl rfl ?_
 refine run_cond_f rfl ?_
 refine sr_ ?_
 refine vm_ rfl rfl rfl ?_
 refine oz_ (xlen Tryz.underlying24 rfl) rfl rfl ?_
 refine vm_ rfl rfl rfl ?_
 refine vm_ rfl rfl rfl ?_
 refine oz_ (xadd rfl rfl (by unfold I64; omega)) rfl rfl ?_
 refine oz_ (xlss rfl rfl _ rfl) rfl rfl ?_
 refine ods (fun c33 => ?_) (fun c33 => ?_)
 ·
  refine vn_ rfl rfl rfl ?_
  refine run_cond_t rfl ?_
  refine sr_ ?_
  refine oz_ (xbuild (vs := []) (cells := #[.slice none 0 0, .slice none 0 0, .slice none 0 0]) rfl (by kernel_rfl)) rfl rfl ?_
  refine ostoreN (vs := _) Tryz.sizeOf32 rfl rfl O2 rfl (by simp) (by simp [Value.oneCell']) rfl ?_
  intro w5 on5 O5
  have hz5 := on5.size
  have E := on5.ext E (by omega)
  replace O5 : Own w5 b2 [.slice none 0 0, .slice none 0 0, .slice none 0 0] 32 := O5
  refine vn_ rfl rfl rfl ?_
  refine run_ret Tryz.func52 (resc2 rfl rfl (run_loadVar_cells Tryz.isAgg32 Tryz.sizeOf32 O5.cells rfl) rfl) ?_
  have he := sw_5 hP c19 c23 (by omega)
  exact ⟨_, rfl, E, _, _, _, _, _, _, _, _, _, by rw [he], by rw [he]; exact (SlF.nil0 _ _ _), by rw [he]; exact (SlF.nil0 _ _ _), by rw [he]; exact (SlF.nil0 _ _ _)⟩
 refine vn_ rfl rfl rfl ?_
 refine run_cond_f rfl ?_
 refine run_skip ?_
 refine run_inBlock ?_
 refine run_seq ?_
 have hcut8 := cut_size (w := w4) (k := b2) (by omega)
 have RE := ext_to_cut E (k := b2) (by omega) (by omega)
 have RO1 := O1.cut (k := b2) (by omega) (by omega)
 refine run_heldC (ext_cut (w := w4) (k := b2) (by omega)) (by kernel_rfl) ?_
 intro wh8 F
 have zh8 := F.size
 have E := E.trans F
 replace Q11 := Q11.ext F
 replace O2 := O2.ext F
 replace F := (ext_cut (w := w4) (k := b2) (by omega)).trans F
 refine h_take 0 rfl (by kernel_rfl) (by kernel_rfl) (by kernel_rfl) (fun w' x_ => xmove rfl) rfl rfl rfl F ?_
 refine h_take 1 rfl (by kernel_rfl) (by kernel_rfl) (by kernel_rfl) (fun w' x_ => xmove rfl) rfl rfl rfl F ?_
 refine h_take 2 rfl (by kernel_rfl) (by kernel_rfl) (by kernel_rfl) (fun w' x_ => xslice_h (k := m.toNat) Tryz.underlying24 Tryz.sizeOf2 rfl rfl (by omega) (by have := (Q11.sl).cap; omega)) rfl rfl rfl F ?_
 refine h_take 4 rfl (by kernel_rfl) (by kernel_rfl) (by kernel_rfl) (fun w' x_ => xmove rfl) rfl rfl rfl F ?_
 refine h_take 5 rfl (by kernel_rfl) (by kernel_rfl) (by kernel_rfl) (fun w' x_ => xmove rfl) rfl rfl rfl F ?_
 refine h_take 6 rfl (by kernel_rfl) (by kernel_rfl) (by kernel_rfl) (fun w' x_ => xmove rfl) rfl rfl rfl F ?_
 refine h_take 7 rfl (by kernel_rfl) (by kernel_rfl) (by kernel_rfl) (fun w' x_ => xmove rfl) rfl rfl rfl F ?_
 refine h_take 8 rfl (by kernel_rfl) (by kernel_rfl) (by kernel_rfl) (fun w' x_ => xadd rfl rfl (by unfold I64; omega)) rfl rfl rfl F ?_
 refine h_take 9 rfl (by kernel_rfl) (by kernel_rfl) (by kernel_rfl) (fun w' x_ => xslice_lh (k := m.toNat) (j := (m + a).toNat) Tryz.underlying24 Tryz.sizeOf2 rfl rfl rfl (by omega) (by omega) (by omega) (by have := (Q11.sl).cap; omega)) rfl rfl rfl F ?_
 refine h_ready (rs := [3]) (by kernel_rfl) (by decide) ⟨?_, trivial⟩
 refine hs_call rfl (xcall Tryz.call97 rfl) rfl rfl rfl (cloneInt64_ok _ _ _ _ _ ((Q11.sl).take (k := m.toNat) (by omega)) ((Q11.sl).take (k := m.toNat) (by omega)).nil (by omega)) ?_
 rintro _ w5 ⟨e5, q38, cc38, rfl, Q38⟩
 have z5 := e5.size
 have E := E.trans e5
 replace Q11 := Q11.ext e5
 replace O2 := O2.ext e5
 have F := F.trans e5
 refine ⟨F, ?_⟩
 refine h_ready (rs := [10]) (by kernel_rfl) (by decide) ⟨?_, trivial⟩
 refine hs_call rfl (xcall Tryz.call97 rfl) rfl rfl rfl (cloneInt64_ok _ _ _ _ _ (((Q11.sl).take (k := (m + a).toNat) (by omega)).drop (k := m.toNat) (by omega)) (((Q11.sl).take (k := (m + a).toNat) (by omega)).drop (k := m.toNat) (by omega)).nil (by omega)) ?_
 rintro _ w6 ⟨e6, q45, cc45, rfl, Q45⟩
 have z6 := e6.size
 have E := E.trans e6
 replace Q38 := Q38.ext e6
 replace O2 := O2.ext e6
 have F := F.trans e6
 refine ⟨F, ?_⟩
 refine h_take 11 rfl (by kernel_rfl) (by kernel_rfl) (by kernel_rfl) (fun w' x_ => xbuild (vs := [.slice q38 m.toNat cc38, .slice q45 ((m + a).toNat - m.toNat) cc45]) (cells := #[.slice q38 m.toNat cc38, .slice q45 ((m + a).toNat - m.toNat) cc45, .slice none 0 0]) rfl (by kernel_rfl)) rfl rfl rfl F ?_
 refine h_ready (rs := [12]) (by kernel_rfl) (by decide) ⟨?_, trivial⟩
 refine hs_storeN (vs := [.slice q38 m.toNat cc38, .slice q45 ((m + a).toNat - m.toNat) cc45, .slice none 0 0]) Tryz.sizeOf32 rfl rfl O2 rfl (by simp) (by simp [Value.oneCell']) F (by omega) rfl rfl ?_
 intro w7 on7 O7
 have hz7 := on7.size
 have E := on7.ext E (by omega)
 replace Q38 := Q38.only on7 (by omega)
 replace Q45 := Q45.only on7 (by omega)
 have F := on7.ext F (by omega)
 replace O7 : Own w7 b2 [.slice q38 m.toNat cc38, .slice q45 ((m + a).toNat - m.toNat) cc45, .slice none 0 0] 32 := O7
 refine h_take 13 rfl (by kernel_rfl) (by kernel_rfl) (by kernel_rfl) (fun w' x_ => xassign rfl) rfl rfl rfl F ?_
 refine h_doneC (by kernel_rfl) ?_
 refine run_ret Tryz.func52 (resc2 rfl rfl (run_loadVar_cells Tryz.isAgg32 Tryz.sizeOf32 O7.cells rfl) rfl) ?_
 have he := sw_0 hP c19 c23 (by omega)
 exact ⟨_, rfl, E, _, _, _, _, _, _, _, _, _, by rw [he], by rw [he]; exact (Q38.slF (by omega) (by omega)), by rw [he]; exact (Q45.slF (by omega) (by omega)), by rw [he]; exact (SlF.nil0 _ _ _)⟩
set_option maxHeartbeats 1000000 in
theorem sSwearJury_ok (u1 : Option Addr) (n1 v1 : Nat) (u2 : Option Addr) (n2 v2 : Nat) (u3 : Option Addr) (n3 v3 : Nat) (x : Pan) (m a : Int) (w : World) (H1 : Sl i64c 1 w u1 n1 v1 x.S) (H2 : Sl i64c 1 w u2 n2 v2 x.W) (H3 : Sl i64c 1 w u3 n3 v3 x.G) (hP : isPan x = true) : Ret Tryz.prog 57 [.agg #[.slice u1 n1 v1, .slice u2 n2 v2, .slice u3 n3 v3], .int .i64 m, .int .i64 a] w (fun v w' => Ext w w' ∧ ∃ (q1 : Option Addr) (m1 d1 : Nat) (q2 : Option Addr) (m2 d2 : Nat) (q3 : Option Addr) (m3 d3 : Nat), v = .tuple #[.agg #[.slice q1 m1 d1, .slice q2 m2 d2, .slice q3 m3 d3], .int .i64 ((swear x m a).2)] ∧ SlF i64c 1 w' w.heap.size w'.heap.size q1 m1 d1 ((swear x m a).1.S) ∧ SlF i64c 1 w' w.heap.size w'.heap.size q2 m2 d2 ((swear x m a).1.A) ∧ SlF i64c 1 w' w.heap.size w'.heap.size q3 m3 d3 ((swear x m a).1.L)) := by
 refine ret_of_run (N := 44) Tryz.func57 rfl rfl rfl ?_
 have hn1 := H1.len
 have hn2 := H2.len
 have hn3 := H3.len
 have hle := pan_le hP
 have E : Ext w w := Ext.refl w
 refine sr_ ?_
 refine obox rfl rfl rfl ?_
 intro b1 w1 e1 hb1 hz1 O1
 have E := E.trans e1
 replace O1 : Own w1 b1 [.slice u1 n1 v1, .slice u2 n2 v2, .slice u3 n3 v3] 79 := O1
 refine oalloc Tryz.zeroValue32 rfl rfl ?_
 intro b2 w2 e2 hb2 hz2 O2
 have E := E.trans e2
 replace O1 := O1.ext e2
 replace O2 : Own w2 b2 [.slice none 0 0, .slice none 0 0, .slice none 0 0] 32 := O2
 refine vn_ rfl rfl rfl ?_
 refine run_seq ?_
 refine sr_ ?_
 refine oz_ (v := .agg #[.slice u1 n1 v1, .slice u2 n2 v2, .slice u3 n3 v3]) (xloadN Tryz.isAgg79 Tryz.sizeOf79 rfl (O1.cells) rfl) rfl rfl ?_
 refine oc (xcall Tryz.call105 rfl) rfl rfl rfl (sIsPanel_ok _ _ _ _ _ _ _ _ _ x _ (H1.ext E) (H2.ext E) (H3.ext E) (by omega)) ?_
 rintro _ w3 ⟨rfl, e3⟩
 have z3 := e3.size
 have E := E.trans e3
 replace O1 := O1.ext e3
 replace O2 := O2.ext e3
 refine obs (fun c10 => ?_) (fun c10 => ?_)
 rotate_left
 ·
  exfalso; rw [hP] at c10; cases c10
 refine oz_ (xnot rfl) rfl rfl ?_
 refine cf_ rfl ?_
 refine run_seq ?_
 refine sr_ ?_
 refine vm_ rfl rfl rfl ?_
 refine oc (xcall Tryz.call68 rfl) rfl rfl rfl (l01In_ok (m) (1) (12) _) ?_
 rintro _ w_ ⟨rfl, hw_⟩
 replace hw_ := hw_.symm
 subst hw_
 refine obs (fun c14 => ?_) (fun c14 => ?_)
 rotate_left
 ·
  refine oz_ (xnot rfl) rfl rfl ?_
  refine vm_ rfl rfl rfl ?_
  refine o2_ rfl rfl rfl rfl ?_
  refine og rfl rfl rfl ?_
  refine oz_ (xpick_t rfl rfl) rfl rfl ?_
  refine ct_ rfl ?_
  refine sr_ ?_
  refine oz_ (xbuild (vs := []) (cells := #[.slice none 0 0, .slice none 0 0, .slice none 0 0]) rfl (by kernel_rfl)) rfl rfl ?_
  refine ostoreN (vs := _) Tryz.sizeOf32 rfl rfl O2 rfl (by simp) (by simp [Value.oneCell']) rfl ?_
  intro w4 on4 O4
  have hz4 := on4.size
  have E := on4.ext E (by omega)
  replace O4 : Own w4 b2 [.slice none 0 0, .slice none 0 0, .slice none 0 0] 32 := O4
  refine vn_ rfl rfl rfl ?_
  refine run_ret Tryz.func57 (resc2 rfl rfl (run_loadVar_cells Tryz.isAgg32 Tryz.sizeOf32 O4.cells rfl) rfl) ?_
  have he := sw_2 (a := a) hP (.inl c14)
  exact ⟨_, rfl, E, _, _, _, _, _, _, _, _, _, by rw [he], by rw [he]; exact (SlF.nil0 _ _ _), by rw [he]; exact (SlF.nil0 _ _ _), by rw [he]; exact (SlF.nil0 _ _ _)⟩
 have hmr := inR_iff.1 c14
 refine oz_ (xnot rfl) rfl rfl ?_
 refine vm_ rfl rfl rfl ?_
 refine vm_ rfl rfl rfl ?_
 refine oc (xcall Tryz.call68 rfl) rfl rfl rfl (l01In_ok (a) (0) (6) _) ?_
 rintro _ w_ ⟨rfl, hw_⟩
 replace hw_ := hw_.symm
 subst hw_
 refine obs (fun c18 => ?_) (fun c18 => ?_)
 rotate_left
 ·
  refine oz_ (xnot rfl) rfl rfl ?_
  refine oz_ (xpick_f rfl rfl) rfl rfl ?_
  refine ct_ rfl ?_
  refine sr_ ?_
  refine oz_ (xbuild (vs := []) (cells := #[.slice none 0 0, .slice none 0 0, .slice none 0 0]) rfl (by kernel_rfl)) rfl rfl ?_
  refine ostoreN (vs := _) Tryz.sizeOf32 rfl rfl O2 rfl (by simp) (by simp [Value.oneCell']) rfl ?_
  intro w4 on4 O4
  have hz4 := on4.size
  have E := on4.ext E (by omega)
  replace O4 : Own w4 b2 [.slice none 0 0, .slice none 0 0, .slice none 0 0] 32 := O4
  refine vn_ rfl rfl rfl ?_
  refine run_ret Tryz.func57 (resc2 rfl rfl (run_loadVar_cells Tryz.isAgg32 Tryz.sizeOf32 O4.cells rfl) rfl) ?_
  have he := sw_2 (m := m) hP (.inr c18)
  exact ⟨_, rfl, E, _, _, _, _, _, _, _, _, _, by rw [he], by rw [he]; exact (SlF.nil0 _ _ _), by rw [he]; exact (SlF.nil0 _ _ _), by rw [he]; exact (SlF.nil0 _ _ _)⟩
 have har := inR_iff.1 c18
 refine oz_ (xnot rfl) rfl rfl ?_
 refine oz_ (xpick_f rfl rfl) rfl rfl ?_
 refine cf_ rfl ?_
 refine sr_ ?_
 refine oz_ (v := .agg #[.slice u1 n1 v1, .slice u2 n2 v2, .slice u3 n3 v3]) (xloadN Tryz.isAgg79 Tryz.sizeOf79 rfl (O1.cells) rfl) rfl rfl ?_
 refine oc (xcall Tryz.call106 rfl) rfl rfl rfl (l12Seated_ok _ _ _ _ _ _ _ _ _ x _ (H1.ext E) (H2.ext E) (H3.ext E) (by omega)) ?_
 rintro _ w4 ⟨e4, q23, m23, d23, rfl, Q23⟩
 have z4 := e4.size
 have E := E.trans e4
 replace O1 := O1.ext e4
 replace O2 := O2.ext e4
 have lG23 := Q23.len
 refine vn_ rfl rfl rfl ?_
 refine run_seq ?_
 refine sr_ ?_
 refine vm_ rfl rfl rfl ?_
 refine vm_ rfl rfl rfl ?_
 refine oz_ (xadd rfl rfl (by unfold I64; omega)) rfl rfl ?_
 refine vm_ rfl rfl rfl ?_
 refine oz_ (xlen Tryz.underlying24 rfl) rfl rfl ?_
 refine oz_ (xgtr rfl rfl _ rfl) rfl rfl ?_
 refine ods (fun c29 => ?_) (fun c29 => ?_)
 ·
  refine ct_ rfl ?_
  refine sr_ ?_
  refine oz_ (xbuild (vs := []) (cells := #[.slice none 0 0, .slice none 0 0, .slice none 0 0]) rfl (by kernel_rfl)) rfl rfl ?_
  refine ostoreN (vs := _) Tryz.sizeOf32 rfl rfl O2 rfl (by simp) (by simp [Value.oneCell']) rfl ?_
  intro w5 on5 O5
  have hz5 := on5.size
  have E := on5.ext E (by omega)
  replace O5 : Own w5 b2 [.slice none 0 0, .slice none 0 0, .slice none 0 0] 32 := O5
  refine vn_ rfl rfl rfl ?_
  refine run_ret Tryz.func57 (resc2 rfl rfl (run_loadVar_cells Tryz.isAgg32 Tryz.sizeOf32 O5.cells rfl) rfl) ?_
  have he := sw_5 hP c14 c18 (by omega)
  exact ⟨_, rfl, E, _, _, _, _, _, _, _, _, _, by rw [he], by rw [he]; exact (SlF.nil0 _ _ _), by rw [he]; exact (SlF.nil0 _ _ _), by rw [he]; exact (SlF.nil0 _ _ _)⟩
 refine cf_ rfl ?_
 refine run_seq ?_
 have hcut8 := cut_size (w := w4) (k := b2) (by omega)
 have RE := ext_to_cut E (k := b2) (by omega) (by omega)
 have RO1 := O1.cut (k := b2) (by omega) (by omega)
 refine run_heldC (ext_cut (w := w4) (k := b2) (by omega)) (by kernel_rfl) ?_
 intro wh8 F
 have zh8 := F.size
 have E := E.trans F
 replace Q23 := Q23.ext F
 replace O2 := O2.ext F
 replace F := (ext_cut (w := w4) (k := b2) (by omega)).trans F
 refine h_take 0 rfl (by kernel_rfl) (by kernel_rfl) (by kernel_rfl) (fun w' x_ => xmove rfl) rfl rfl rfl F ?_
 refine h_take 1 rfl (by kernel_rfl) (by kernel_rfl) (by kernel_rfl) (fun w' x_ => xmove rfl) rfl rfl rfl F ?_
 refine h_take 2 rfl (by kernel_rfl) (by kernel_rfl) (by kernel_rfl) (fun w' x_ => xslice_h (k := m.toNat) Tryz.underlying24 Tryz.sizeOf2 rfl rfl (by omega) (by have := (Q23.sl).cap; omega)) rfl rfl rfl F ?_
 refine h_take 4 rfl (by kernel_rfl) (by kernel_rfl) (by kernel_rfl) (fun w' x_ => xmove rfl) rfl rfl rfl F ?_
 refine h_take 5 rfl (by kernel_rfl) (by kernel_rfl) (by kernel_rfl) (fun w' x_ => xmove rfl) rfl rfl rfl F ?_
 refine h_take 6 rfl (by kernel_rfl) (by kernel_rfl) (by kernel_rfl) (fun w' x_ => xmove rfl) rfl rfl rfl F ?_
 refine h_take 7 rfl (by kernel_rfl) (by kernel_rfl) (by kernel_rfl) (fun w' x_ => xmove rfl) rfl rfl rfl F ?_
 refine h_take 8 rfl (by kernel_rfl) (by kernel_rfl) (by kernel_rfl) (fun w' x_ => xadd rfl rfl (by unfold I64; omega)) rfl rfl rfl F ?_
 refine h_take 9 rfl (by kernel_rfl) (by kernel_rfl) (by kernel_rfl) (fun w' x_ => xslice_lh (k := m.toNat) (j := (m + a).toNat) Tryz.underlying24 Tryz.sizeOf2 rfl rfl rfl (by omega) (by omega) (by omega) (by have := (Q23.sl).cap; omega)) rfl rfl rfl F ?_
 refine h_ready (rs := [3, 11]) (by kernel_rfl) (by decide) ⟨?_, ?_, trivial⟩
 rotate_left
 ·
  refine hs_build (len := 0) (vs := []) (cs := []) (sz := 1) Tryz.underlying24 inf2 rfl rfl (by decide) (by rfl) (by rfl) (by simp [Value.cells]) rfl F rfl rfl rfl ?_
  intro b5 w5 e5 hb5 hz5 O5
  have E := E.trans e5
  replace Q23 := Q23.ext e5
  replace O2 := O2.ext e5
  have G5 : Ow i64c 1 2 w5 b5 (b5 + 1) (some ⟨b5, 0, none⟩) 0 0 ([] : List Int) := Own.ow (by simpa using O5) rfl (by omega) (Nat.le_refl _) (by omega) (by intro x hx; rfl)
  have F := F.trans e5
  refine h_ready (rs := [3]) (by kernel_rfl) (by decide) ⟨?_, trivial⟩
  refine hs_call rfl (xcall Tryz.call102 rfl) rfl rfl rfl (l01Own_ok _ _ _ _ _ ((Q23.sl).take (k := m.toNat) (by omega)) ((Q23.sl).take (k := m.toNat) (by omega)).nil (by omega)) ?_
  rintro _ w6 ⟨e6, q34, cc34, rfl, Q34⟩
  have z6 := e6.size
  have E := E.trans e6
  replace Q23 := Q23.ext e6
  replace G5 := G5.ext e6
  replace O2 := O2.ext e6
  have F := F.trans e6
  refine ⟨F, ?_⟩
  refine h_ready (rs := [10]) (by kernel_rfl) (by decide) ⟨?_, trivial⟩
  refine hs_call rfl (xcall Tryz.call102 rfl) rfl rfl rfl (l01Own_ok _ _ _ _ _ (((Q23.sl).take (k := (m + a).toNat) (by omega)).drop (k := m.toNat) (by omega)) (((Q23.sl).take (k := (m + a).toNat) (by omega)).drop (k := m.toNat) (by omega)).nil (by omega)) ?_
  rintro _ w7 ⟨e7, q41, cc41, rfl, Q41⟩
  have z7 := e7.size
  have E := E.trans e7
  replace G5 := G5.ext e7
  replace Q34 := Q34.ext e7
  replace O2 := O2.ext e7
  have F := F.trans e7
  refine ⟨F, ?_⟩
  refine h_take 12 rfl (by kernel_rfl) (by kernel_rfl) (by kernel_rfl) (fun w' x_ => xbuild (vs := [.slice q34 m.toNat cc34, .slice q41 ((m + a).toNat - m.toNat) cc41, .slice (some ⟨b5, 0, none⟩) 0 0]) (cells := #[.slice q34 m.toNat cc34, .slice q41 ((m + a).toNat - m.toNat) cc41, .slice (some ⟨b5, 0, none⟩) 0 0]) rfl (by kernel_rfl)) rfl rfl rfl F ?_
  refine h_ready (rs := [13]) (by kernel_rfl) (by decide) ⟨?_, trivial⟩
  refine hs_storeN (vs := [.slice q34 m.toNat cc34, .slice q41 ((m + a).toNat - m.toNat) cc41, .slice (some ⟨b5, 0, none⟩) 0 0]) Tryz.sizeOf32 rfl rfl O2 rfl (by simp) (by simp [Value.oneCell']) F (by omega) rfl rfl ?_
  intro w8 on8 O8
  have hz8 := on8.size
  have E := on8.ext E (by omega)
  replace G5 := G5.only on8 (by omega)
  replace Q34 := Q34.only on8 (by omega)
  replace Q41 := Q41.only on8 (by omega)
  have F := on8.ext F (by omega)
  replace O8 : Own w8 b2 [.slice q34 m.toNat cc34, .slice q41 ((m + a).toNat - m.toNat) cc41, .slice (some ⟨b5, 0, none⟩) 0 0] 32 := O8
  refine h_take 14 rfl (by kernel_rfl) (by kernel_rfl) (by kernel_rfl) (fun w' x_ => xassign rfl) rfl rfl rfl F ?_
  refine h_doneC (by kernel_rfl) ?_
  refine run_ret Tryz.func57 (resc2 rfl rfl (run_loadVar_cells Tryz.isAgg32 Tryz.sizeOf32 O8.cells rfl) rfl) ?_
  have he := sw_0 hP c14 c18 (by omega)
  exact ⟨_, rfl, E, _, _, _, _, _, _, _, _, _, by rw [he], by rw [he]; exact (Q34.slF (by omega) (by omega)), by rw [he]; exact (Q41.slF (by omega) (by omega)), by rw [he]; exact (G5.slF (by omega) (by omega))⟩
 refine hs_call rfl (xcall Tryz.call102 rfl) rfl rfl rfl (l01Own_ok _ _ _ _ _ ((Q23.sl).take (k := m.toNat) (by omega)) ((Q23.sl).take (k := m.toNat) (by omega)).nil (by omega)) ?_
 rintro _ w5 ⟨e5, q34, cc34, rfl, Q34⟩
 have z5 := e5.size
 have E := E.trans e5
 replace Q23 := Q23.ext e5
 replace O2 := O2.ext e5
 have F := F.trans e5
 refine ⟨F, ?_⟩
 refine h_ready (rs := [10, 11]) (by kernel_rfl) (by decide) ⟨?_, ?_, trivial⟩
 ·
  refine hs_call rfl (xcall Tryz.call102 rfl) rfl rfl rfl (l01Own_ok _ _ _ _ _ (((Q23.sl).take (k := (m + a).toNat) (by omega)).drop (k := m.toNat) (by omega)) (((Q23.sl).take (k := (m + a).toNat) (by omega)).drop (k := m.toNat) (by omega)).nil (by omega)) ?_
  rintro _ w6 ⟨e6, q41, cc41, rfl, Q41⟩
  have z6 := e6.size
  have E := E.trans e6
  replace Q34 := Q34.ext e6
  replace O2 := O2.ext e6
  have F := F.trans e6
  refine ⟨F, ?_⟩
  refine h_ready (rs := [11]) (by kernel_rfl) (by decide) ⟨?_, trivial⟩
  refine hs_build (len := 0) (vs := []) (cs := []) (sz := 1) Tryz.underlying24 inf2 rfl rfl (by decide) (by rfl) (by rfl) (by simp [Value.cells]) rfl F rfl rfl rfl ?_
  intro b7 w7 e7 hb7 hz7 O7
  have E := E.trans e7
  replace Q34 := Q34.ext e7
  replace Q41 := Q41.ext e7
  replace O2 := O2.ext e7
  have G7 : Ow i64c 1 2 w7 b7 (b7 + 1) (some ⟨b7, 0, none⟩) 0 0 ([] : List Int) := Own.ow (by simpa using O7) rfl (by omega) (Nat.le_refl _) (by omega) (by intro x hx; rfl)
  have F := F.trans e7
  refine h_take 12 rfl (by kernel_rfl) (by kernel_rfl) (by kernel_rfl) (fun w' x_ => xbuild (vs := [.slice q34 m.toNat cc34, .slice q41 ((m + a).toNat - m.toNat) cc41, .slice (some ⟨b7, 0, none⟩) 0 0]) (cells := #[.slice q34 m.toNat cc34, .slice q41 ((m + a).toNat - m.toNat) cc41, .slice (some ⟨b7, 0, none⟩) 0 0]) rfl (by kernel_rfl)) rfl rfl rfl F ?_
  refine h_ready (rs := [13]) (by kernel_rfl) (by decide) ⟨?_, trivial⟩
  refine hs_storeN (vs := [.slice q34 m.toNat cc34, .slice q41 ((m + a).toNat - m.toNat) cc41, .slice (some ⟨b7, 0, none⟩) 0 0]) Tryz.sizeOf32 rfl rfl O2 rfl (by simp) (by simp [Value.oneCell']) F (by omega) rfl rfl ?_
  intro w8 on8 O8
  have hz8 := on8.size
  have E := on8.ext E (by omega)
  replace Q34 := Q34.only on8 (by omega)
  replace Q41 := Q41.only on8 (by omega)
  replace G7 := G7.only on8 (by omega)
  have F := on8.ext F (by omega)
  replace O8 : Own w8 b2 [.slice q34 m.toNat cc34, .slice q41 ((m + a).toNat - m.toNat) cc41, .slice (some ⟨b7, 0, none⟩) 0 0] 32 := O8
  refine h_take 14 rfl (by kernel_rfl) (by kernel_rfl) (by kernel_rfl) (fun w' x_ => xassign rfl) rfl rfl rfl F ?_
  refine h_doneC (by kernel_rfl) ?_
  refine run_ret Tryz.func57 (resc2 rfl rfl (run_loadVar_cells Tryz.isAgg32 Tryz.sizeOf32 O8.cells rfl) rfl) ?_
  have he := sw_0 hP c14 c18 (by omega)
  exact ⟨_, rfl, E, _, _, _, _, _, _, _, _, _, by rw [he], by rw [he]; exact (Q34.slF (by omega) (by omega)), by rw [he]; exact (Q41.slF (by omega) (by omega)), by rw [he]; exact (G7.slF (by omega) (by omega))⟩
 refine hs_build (len := 0) (vs := []) (cs := []) (sz := 1) Tryz.underlying24 inf2 rfl rfl (by decide) (by rfl) (by rfl) (by simp [Value.cells]) rfl F rfl rfl rfl ?_
 intro b6 w6 e6 hb6 hz6 O6
 have E := E.trans e6
 replace Q23 := Q23.ext e6
 replace Q34 := Q34.ext e6
 replace O2 := O2.ext e6
 have G6 : Ow i64c 1 2 w6 b6 (b6 + 1) (some ⟨b6, 0, none⟩) 0 0 ([] : List Int) := Own.ow (by simpa using O6) rfl (by omega) (Nat.le_refl _) (by omega) (by intro x hx; rfl)
 have F := F.trans e6
 refine h_ready (rs := [10]) (by kernel_rfl) (by decide) ⟨?_, trivial⟩
 refine hs_call rfl (xcall Tryz.call102 rfl) rfl rfl rfl (l01Own_ok _ _ _ _ _ (((Q23.sl).take (k := (m + a).toNat) (by omega)).drop (k := m.toNat) (by omega)) (((Q23.sl).take (k := (m + a).toNat) (by omega)).drop (k := m.toNat) (by omega)).nil (by omega)) ?_
 rintro _ w7 ⟨e7, q41, cc41, rfl, Q41⟩
 have z7 := e7.size
 have E := E.trans e7
 replace Q34 := Q34.ext e7
 replace G6 := G6.ext e7
 replace O2 := O2.ext e7
 have F := F.trans e7
 refine ⟨F, ?_⟩
 refine h_take 12 rfl (by kernel_rfl) (by kernel_rfl) (by kernel_rfl) (fun w' x_ => xbuild (vs := [.slice q34 m.toNat cc34, .slice q41 ((m + a).toNat - m.toNat) cc41, .slice (some ⟨b6, 0, none⟩) 0 0]) (cells := #[.slice q34 m.toNat cc34, .slice q41 ((m + a).toNat - m.toNat) cc41, .slice (some ⟨b6, 0, none⟩) 0 0]) rfl (by kernel_rfl)) rfl rfl rfl F ?_
 refine h_ready (rs := [13]) (by kernel_rfl) (by decide) ⟨?_, trivial⟩
 refine hs_storeN (vs := [.slice q34 m.toNat cc34, .slice q41 ((m + a).toNat - m.toNat) cc41, .slice (some ⟨b6, 0, none⟩) 0 0]) Tryz.sizeOf32 rfl rfl O2 rfl (by simp) (by simp [Value.oneCell']) F (by omega) rfl rfl ?_
 intro w8 on8 O8
 have hz8 := on8.size
 have E := on8.ext E (by omega)
 replace Q34 := Q34.only on8 (by omega)
 replace G6 := G6.only on8 (by omega)
 replace Q41 := Q41.only on8 (by omega)
 have F := on8.ext F (by omega)
 replace O8 : Own w8 b2 [.slice q34 m.toNat cc34, .slice q41 ((m + a).toNat - m.toNat) cc41, .slice (some ⟨b6, 0, none⟩) 0 0] 32 := O8
 refine h_take 14 rfl (by kernel_rfl) (by kernel_rfl) (by kernel_rfl) (fun w' x_ => xassign rfl) rfl rfl rfl F ?_
 refine h_doneC (by kernel_rfl) ?_
 refine run_ret Tryz.func57 (resc2 rfl rfl (run_loadVar_cells Tryz.isAgg32 Tryz.sizeOf32 O8.cells rfl) rfl) ?_
 have he := sw_0 hP c14 c18 (by omega)
 exact ⟨_, rfl, E, _, _, _, _, _, _, _, _, _, by rw [he], by rw [he]; exact (Q34.slF (by omega) (by omega)), by rw [he]; exact (Q41.slF (by omega) (by omega)), by rw [he]; exact (G6.slF (by omega) (by omega))⟩
set_option maxHeartbeats 1000000 in
theorem IsJury_ok (u1 : Option Addr) (n1 v1 : Nat) (u2 : Option Addr) (n2 v2 : Nat) (u3 : Option Addr) (n3 v3 : Nat) (j : Jur) (w : World) (H1 : Sl i64c 1 w u1 n1 v1 j.S) (H2 : Sl i64c 1 w u2 n2 v2 j.A) (H3 : Sl i64c 1 w u3 n3 v3 j.L) (hb : n1 ≤ 1000 ∧ n2 ≤ 1000 ∧ n3 ≤ 1000) : Ret Tryz.prog 18 [.agg #[.slice u1 n1 v1, .slice u2 n2 v2, .slice u3 n3 v3]] w (Pv w (.bool (isJur j))) := by
 refine ret_of_run (N := 40) Tryz.func18 rfl rfl rfl ?_
 have hn1 := H1.len
 have hn2 := H2.len
 have hn3 := H3.len
 have hsl := seatedL_le j.S
 have hfl : [seatedL j.S, j.A, j.L].flatten = seatedL j.S ++ (j.A ++ j.L) := by simp
 have E : Ext w w := Ext.refl w
 refine sr_ ?_
 refine obox rfl rfl rfl ?_
 intro b1 w1 e1 hb1 hz1 O1
 have E := E.trans e1
 replace O1 : Own w1 b1 [.slice u1 n1 v1, .slice u2 n2 v2, .slice u3 n3 v3] 32 := O1
 refine vn_ rfl rfl rfl ?_
 refine run_seq ?_
 refine sr_ ?_
 refine oz_ (xfieldAddr fo32f0 rfl) rfl rfl ?_
 refine oz_ (v := .slice u1 n1 v1) (xload1 Tryz.isAgg24 rfl (O1.cells) rfl) rfl rfl ?_
 refine oc (xcall Tryz.call41 rfl) rfl rfl rfl (hasI_ok _ _ _ _ (0) _ (H1.ext E)) ?_
 rintro _ w2 ⟨rfl, e2⟩
 have z2 := e2.size
 have E := E.trans e2
 replace O1 := O1.ext e2
 refine obs (fun c5 => ?_) (fun c5 => ?_)
 rotate_left
 ·
  refine vm_ rfl rfl rfl ?_
  refine o2_ rfl rfl rfl rfl ?_
  refine o2_ rfl rfl rfl rfl ?_
  refine oz_ (xpick_f rfl rfl) rfl rfl ?_
  refine cf_ rfl ?_
  refine run_seq ?_
  have RE := E
  have RO1 := O1
  refine run_heldC (Ext.refl _) (by kernel_rfl) ?_
  intro wh3 F
  have zh3 := F.size
  have E := E.trans F
  refine h_take 0 rfl (by kernel_rfl) (by kernel_rfl) (by kernel_rfl) (fun w' x_ => xfieldAddr fo32f0 rfl) rfl rfl rfl F ?_
  refine h_take 1 (v := .slice u1 n1 v1) rfl (by kernel_rfl) (by kernel_rfl) (by kernel_rfl) (fun w' x_ => xload1 Tryz.isAgg24 rfl ((RO1.cells).ext x_) rfl) rfl rfl rfl F ?_
  refine h_take 2 rfl (by kernel_rfl) (by kernel_rfl) (by kernel_rfl) (fun w' x_ => xlen Tryz.underlying24 rfl) rfl rfl rfl F ?_
  refine h_ready (rs := [3]) (by kernel_rfl) (by decide) ⟨?_, trivial⟩
  refine hs_call rfl (xcall Tryz.call42 rfl) rfl rfl rfl (Ret.pv (isSeats_ok ((n1 : Int)) _)) ?_
  rintro _ w3 ⟨rfl, e3⟩
  have z3 := e3.size
  have E := E.trans e3
  have F := F.trans e3
  refine ⟨F, ?_⟩
  refine h_bs (fun c15 => ?_) (fun c15 => ?_)
  ·
   refine h_take 4 rfl (by kernel_rfl) (by kernel_rfl) (by kernel_rfl) (fun w' x_ => xmove rfl) rfl rfl rfl F ?_
   refine h_take 5 rfl (by kernel_rfl) (by kernel_rfl) (by kernel_rfl) (fun w' x_ => xfieldAddr fo32f1 rfl) rfl rfl rfl F ?_
   refine h_take 6 (v := .slice u2 n2 v2) rfl (by kernel_rfl) (by kernel_rfl) (by kernel_rfl) (fun w' x_ => xload1 Tryz.isAgg24 rfl ((RO1.cells).ext x_) rfl) rfl rfl rfl F ?_
   refine h_take 7 rfl (by kernel_rfl) (by kernel_rfl) (by kernel_rfl) (fun w' x_ => xlen Tryz.underlying24 rfl) rfl rfl rfl F ?_
   refine h_ready (rs := [8]) (by kernel_rfl) (by decide) ⟨?_, trivial⟩
   refine hs_call rfl (xcall Tryz.call43 rfl) rfl rfl rfl (Ret.pv (few_ok ((n2 : Int)) (6) _)) ?_
   rintro _ w4 ⟨rfl, e4⟩
   have z4 := e4.size
   have E := E.trans e4
   have F := F.trans e4
   refine ⟨F, ?_⟩
   refine h_bs (fun c20 => ?_) (fun c20 => ?_)
   ·
    refine h_take 9 rfl (by kernel_rfl) (by kernel_rfl) (by kernel_rfl) (fun w' x_ => xpick_t rfl rfl) rfl rfl rfl F ?_
    refine h_take 10 rfl (by kernel_rfl) (by kernel_rfl) (by kernel_rfl) (fun w' x_ => xmove rfl) rfl rfl rfl F ?_
    refine h_take 11 rfl (by kernel_rfl) (by kernel_rfl) (by kernel_rfl) (fun w' x_ => xfieldAddr fo32f2 rfl) rfl rfl rfl F ?_
    refine h_take 12 (v := .slice u3 n3 v3) rfl (by kernel_rfl) (by kernel_rfl) (by kernel_rfl) (fun w' x_ => xload1 Tryz.isAgg24 rfl ((RO1.cells).ext x_) rfl) rfl rfl rfl F ?_
    refine h_take 13 rfl (by kernel_rfl) (by kernel_rfl) (by kernel_rfl) (fun w' x_ => xlen Tryz.underlying24 rfl) rfl rfl rfl F ?_
    refine h_ready (rs := [14]) (by kernel_rfl) (by decide) ⟨?_, trivial⟩
    refine hs_call rfl (xcall Tryz.call43 rfl) rfl rfl rfl (Ret.pv (few_ok ((n3 : Int)) (60) _)) ?_
    rintro _ w5 ⟨rfl, e5⟩
    have z5 := e5.size
    have E := E.trans e5
    have F := F.trans e5
    refine ⟨F, ?_⟩
    refine h_bs (fun c26 => ?_) (fun c26 => ?_)
    ·
     refine h_take 15 rfl (by kernel_rfl) (by kernel_rfl) (by kernel_rfl) (fun w' x_ => xpick_t rfl rfl) rfl rfl rfl F ?_
     refine h_take 16 rfl (by kernel_rfl) (by kernel_rfl) (by kernel_rfl) (fun w' x_ => xmove rfl) rfl rfl rfl F ?_
     refine h_take 17 rfl (by kernel_rfl) (by kernel_rfl) (by kernel_rfl) (fun w' x_ => xfieldAddr fo32f0 rfl) rfl rfl rfl F ?_
     refine h_take 18 (v := .slice u1 n1 v1) rfl (by kernel_rfl) (by kernel_rfl) (by kernel_rfl) (fun w' x_ => xload1 Tryz.isAgg24 rfl ((RO1.cells).ext x_) rfl) rfl rfl rfl F ?_
     refine h_take 20 rfl (by kernel_rfl) (by kernel_rfl) (by kernel_rfl) (fun w' x_ => xfieldAddr fo32f1 rfl) rfl rfl rfl F ?_
     refine h_take 21 (v := .slice u2 n2 v2) rfl (by kernel_rfl) (by kernel_rfl) (by kernel_rfl) (fun w' x_ => xload1 Tryz.isAgg24 rfl ((RO1.cells).ext x_) rfl) rfl rfl rfl F ?_
     refine h_take 22 rfl (by kernel_rfl) (by kernel_rfl) (by kernel_rfl) (fun w' x_ => xfieldAddr fo32f2 rfl) rfl rfl rfl F ?_
     refine h_take 23 (v := .slice u3 n3 v3) rfl (by kernel_rfl) (by kernel_rfl) (by kernel_rfl) (fun w' x_ => xload1 Tryz.isAgg24 rfl ((RO1.cells).ext x_) rfl) rfl rfl rfl F ?_
     refine h_ready (rs := [19]) (by kernel_rfl) (by decide) ⟨?_, trivial⟩
     refine hs_call rfl (xcall Tryz.call46 rfl) rfl rfl rfl (seated_ok _ _ _ _ _ (H1.ext E) (by omega)) ?_
     rintro _ w6 ⟨e6, q31, m31, d31, rfl, Q31⟩
     have z6 := e6.size
     have E := E.trans e6
     have F := F.trans e6
     have lG31 := Q31.len
     refine ⟨F, ?_⟩
     refine h_ready (rs := [24]) (by kernel_rfl) (by decide) ⟨?_, trivial⟩
     refine hs_build (len := 3) (vs := [.slice q31 m31 d31, .slice u2 n2 v2, .slice u3 n3 v3]) (cs := [.slice q31 m31 d31, .slice u2 n2 v2, .slice u3 n3 v3]) (sz := 1) Tryz.underlying36 inf24 rfl rfl (by decide) (by rfl) (by rfl) (by simp [Value.cells]) rfl F rfl rfl rfl ?_
     intro b7 w7 e7 hb7 hz7 O7
     have E := E.trans e7
     replace Q31 := Q31.ext e7
     have F := F.trans e7
     refine h_ready (rs := [25]) (by kernel_rfl) (by decide) ⟨?_, trivial⟩
     refine hs_call rfl (xcall Tryz.call45 rfl) rfl rfl rfl (joined_ok _ _ _ [seatedL j.S, j.A, j.L] _ (sn3 O7 (Q31.sl) (H2.ext E) (H3.ext E)) (by intro v hv_; simp only [List.mem_cons, List.not_mem_nil, or_false] at hv_; rcases hv_ with rfl | rfl | rfl <;> omega) (by omega)) ?_
     rintro _ w8 ⟨e8, q37, m37, d37, rfl, Q37⟩
     have z8 := e8.size
     have E := E.trans e8
     have F := F.trans e8
     rw [hfl] at Q37
     have lG37 := Q37.len
     refine ⟨F, ?_⟩
     refine h_ready (rs := [26]) (by kernel_rfl) (by decide) ⟨?_, trivial⟩
     refine hs_call rfl (xcall Tryz.call44 rfl) rfl rfl rfl (distinct_ok _ _ _ _ _ (Q37.sl)) ?_
     rintro _ w9 ⟨rfl, e9⟩
     have z9 := e9.size
     have E := E.trans e9
     have F := F.trans e9
     refine ⟨F, ?_⟩
     refine h_take 27 rfl (by kernel_rfl) (by kernel_rfl) (by kernel_rfl) (fun w' x_ => xpick_t rfl rfl) rfl rfl rfl F ?_
     refine h_take 28 rfl (by kernel_rfl) (by kernel_rfl) (by kernel_rfl) (fun w' x_ => xassign rfl) rfl rfl rfl F ?_
     refine h_doneC (by kernel_rfl) ?_
     refine run_ret Tryz.func18 (res1 rfl rfl) ?_
     have hA2 : (!(hasI j.S 0 && decide (0 < j.A.length))) = true := by rw [c5]; rfl
     have hA : decide (j.A.length ≤ 6) = true := decide_eq_true (by simp only [decide_eq_true_eq] at c20; omega)
     have hL : decide (j.L.length ≤ 60) = true := decide_eq_true (by simp only [decide_eq_true_eq] at c26; omega)
     exact ⟨_, rfl, by rw [isJur, hA2, Bool.true_and, ← hn1, c15, hA, hL]; rfl, E⟩
    refine h_take 15 rfl (by kernel_rfl) (by kernel_rfl) (by kernel_rfl) (fun w' x_ => xpick_t rfl rfl) rfl rfl rfl F ?_
    refine h_take 16 rfl (by kernel_rfl) (by kernel_rfl) (by kernel_rfl) (fun w' x_ => xmove rfl) rfl rfl rfl F ?_
    refine h_takeg 17 rfl (by kernel_rfl) (by kernel_rfl) (by kernel_rfl) rfl rfl rfl F ?_
    refine h_takeg 18 rfl (by kernel_rfl) (by kernel_rfl) (by kernel_rfl) rfl rfl rfl F ?_
    refine h_takeg 19 rfl (by kernel_rfl) (by kernel_rfl) (by kernel_rfl) rfl rfl rfl F ?_
    refine h_takeg 20 rfl (by kernel_rfl) (by kernel_rfl) (by kernel_rfl) rfl rfl rfl F ?_
    refine h_takeg 21 rfl (by kernel_rfl) (by kernel_rfl) (by kernel_rfl) rfl rfl rfl F ?_
    refine h_takeg 22 rfl (by kernel_rfl) (by kernel_rfl) (by kernel_rfl) rfl rfl rfl F ?_
    refine h_takeg 23 rfl (by kernel_rfl) (by kernel_rfl) (by kernel_rfl) rfl rfl rfl F ?_
    refine h_takeg 24 rfl (by kernel_rfl) (by kernel_rfl) (by kernel_rfl) rfl rfl rfl F ?_
    refine h_takeg 25 rfl (by kernel_rfl) (by kernel_rfl) (by kernel_rfl) rfl rfl rfl F ?_
    refine h_takeg 26 rfl (by kernel_rfl) (by kernel_rfl) (by kernel_rfl) rfl rfl rfl F ?_
    refine h_take 27 rfl (by kernel_rfl) (by kernel_rfl) (by kernel_rfl) (fun w' x_ => xpick_f rfl rfl) rfl rfl rfl F ?_
    refine h_take 28 rfl (by kernel_rfl) (by kernel_rfl) (by kernel_rfl) (fun w' x_ => xassign rfl) rfl rfl rfl F ?_
    refine h_doneC (by kernel_rfl) ?_
    refine run_ret Tryz.func18 (res1 rfl rfl) ?_
    have hA2 : (!(hasI j.S 0 && decide (0 < j.A.length))) = true := by rw [c5]; rfl
    have hA : decide (j.A.length ≤ 6) = true := decide_eq_true (by simp only [decide_eq_true_eq] at c20; omega)
    have hL : decide (j.L.length ≤ 60) = false := decide_eq_false (by simp only [decide_eq_false_iff_not] at c26; omega)
    exact ⟨_, rfl, by rw [isJur, hA2, Bool.true_and, ← hn1, c15, hA, hL]; rfl, E⟩
   refine h_take 9 rfl (by kernel_rfl) (by kernel_rfl) (by kernel_rfl) (fun w' x_ => xpick_t rfl rfl) rfl rfl rfl F ?_
   refine h_take 10 rfl (by kernel_rfl) (by kernel_rfl) (by kernel_rfl) (fun w' x_ => xmove rfl) rfl rfl rfl F ?_
   refine h_takeg 11 rfl (by kernel_rfl) (by kernel_rfl) (by kernel_rfl) rfl rfl rfl F ?_
   refine h_takeg 12 rfl (by kernel_rfl) (by kernel_rfl) (by kernel_rfl) rfl rfl rfl F ?_
   refine h_takeg 13 rfl (by kernel_rfl) (by kernel_rfl) (by kernel_rfl) rfl rfl rfl F ?_
   refine h_takeg 14 rfl (by kernel_rfl) (by kernel_rfl) (by kernel_rfl) rfl rfl rfl F ?_
   refine h_take 15 rfl (by kernel_rfl) (by kernel_rfl) (by kernel_rfl) (fun w' x_ => xpick_f rfl rfl) rfl rfl rfl F ?_
   refine h_take 16 rfl (by kernel_rfl) (by kernel_rfl) (by kernel_rfl) (fun w' x_ => xmove rfl) rfl rfl rfl F ?_
   refine h_takeg 17 rfl (by kernel_rfl) (by kernel_rfl) (by kernel_rfl) rfl rfl rfl F ?_
   refine h_takeg 18 rfl (by kernel_rfl) (by kernel_rfl) (by kernel_rfl) rfl rfl rfl F ?_
   refine h_takeg 19 rfl (by kernel_rfl) (by kernel_rfl) (by kernel_rfl) rfl rfl rfl F ?_
   refine h_takeg 20 rfl (by kernel_rfl) (by kernel_rfl) (by kernel_rfl) rfl rfl rfl F ?_
   refine h_takeg 21 rfl (by kernel_rfl) (by kernel_rfl) (by kernel_rfl) rfl rfl rfl F ?_
   refine h_takeg 22 rfl (by kernel_rfl) (by kernel_rfl) (by kernel_rfl) rfl rfl rfl F ?_
   refine h_takeg 23 rfl (by kernel_rfl) (by kernel_rfl) (by kernel_rfl) rfl rfl rfl F ?_
   refine h_takeg 24 rfl (by kernel_rfl) (by kernel_rfl) (by kernel_rfl) rfl rfl rfl F ?_
   refine h_takeg 25 rfl (by kernel_rfl) (by kernel_rfl) (by kernel_rfl) rfl rfl rfl F ?_
   refine h_takeg 26 rfl (by kernel_rfl) (by kernel_rfl) (by kernel_rfl) rfl rfl rfl F ?_
   refine h_take 27 rfl (by kernel_rfl) (by kernel_rfl) (by kernel_rfl) (fun w' x_ => xpick_f rfl rfl) rfl rfl rfl F ?_
   refine h_take 28 rfl (by kernel_rfl) (by kernel_rfl) (by kernel_rfl) (fun w' x_ => xassign rfl) rfl rfl rfl F ?_
   refine h_doneC (by kernel_rfl) ?_
   refine run_ret Tryz.func18 (res1 rfl rfl) ?_
   have hA2 : (!(hasI j.S 0 && decide (0 < j.A.length))) = true := by rw [c5]; rfl
   have hA : decide (j.A.length ≤ 6) = false := decide_eq_false (by simp only [decide_eq_false_iff_not] at c20; omega)
   exact ⟨_, rfl, by rw [isJur, hA2, Bool.true_and, ← hn1, c15, ‹decide (j.A.length ≤ 6) = false›]; rfl, E⟩
  refine h_take 4 rfl (by kernel_rfl) (by kernel_rfl) (by kernel_rfl) (fun w' x_ => xmove rfl) rfl rfl rfl F ?_
  refine h_takeg 5 rfl (by kernel_rfl) (by kernel_rfl) (by kernel_rfl) rfl rfl rfl F ?_
  refine h_takeg 6 rfl (by kernel_rfl) (by kernel_rfl) (by kernel_rfl) rfl rfl rfl F ?_
  refine h_takeg 7 rfl (by kernel_rfl) (by kernel_rfl) (by kernel_rfl) rfl rfl rfl F ?_
  refine h_takeg 8 rfl (by kernel_rfl) (by kernel_rfl) (by kernel_rfl) rfl rfl rfl F ?_
  refine h_take 9 rfl (by kernel_rfl) (by kernel_rfl) (by kernel_rfl) (fun w' x_ => xpick_f rfl rfl) rfl rfl rfl F ?_
  refine h_take 10 rfl (by kernel_rfl) (by kernel_rfl) (by kernel_rfl) (fun w' x_ => xmove rfl) rfl rfl rfl F ?_
  refine h_takeg 11 rfl (by kernel_rfl) (by kernel_rfl) (by kernel_rfl) rfl rfl rfl F ?_
  refine h_takeg 12 rfl (by kernel_rfl) (by kernel_rfl) (by kernel_rfl) rfl rfl rfl F ?_
  refine h_takeg 13 rfl (by kernel_rfl) (by kernel_rfl) (by kernel_rfl) rfl rfl rfl F ?_
  refine h_takeg 14 rfl (by kernel_rfl) (by kernel_rfl) (by kernel_rfl) rfl rfl rfl F ?_
  refine h_take 15 rfl (by kernel_rfl) (by kernel_rfl) (by kernel_rfl) (fun w' x_ => xpick_f rfl rfl) rfl rfl rfl F ?_
  refine h_take 16 rfl (by kernel_rfl) (by kernel_rfl) (by kernel_rfl) (fun w' x_ => xmove rfl) rfl rfl rfl F ?_
  refine h_takeg 17 rfl (by kernel_rfl) (by kernel_rfl) (by kernel_rfl) rfl rfl rfl F ?_
  refine h_takeg 18 rfl (by kernel_rfl) (by kernel_rfl) (by kernel_rfl) rfl rfl rfl F ?_
  refine h_takeg 19 rfl (by kernel_rfl) (by kernel_rfl) (by kernel_rfl) rfl rfl rfl F ?_
  refine h_takeg 20 rfl (by kernel_rfl) (by kernel_rfl) (by kernel_rfl) rfl rfl rfl F ?_
  refine h_takeg 21 rfl (by kernel_rfl) (by kernel_rfl) (by kernel_rfl) rfl rfl rfl F ?_
  refine h_takeg 22 rfl (by kernel_rfl) (by kernel_rfl) (by kernel_rfl) rfl rfl rfl F ?_
  refine h_takeg 23 rfl (by kernel_rfl) (by kernel_rfl) (by kernel_rfl) rfl rfl rfl F ?_
  refine h_takeg 24 rfl (by kernel_rfl) (by kernel_rfl) (by kernel_rfl) rfl rfl rfl F ?_
  refine h_takeg 25 rfl (by kernel_rfl) (by kernel_rfl) (by kernel_rfl) rfl rfl rfl F ?_
  refine h_takeg 26 rfl (by kernel_rfl) (by kernel_rfl) (by kernel_rfl) rfl rfl rfl F ?_
  refine h_take 27 rfl (by kernel_rfl) (by kernel_rfl) (by kernel_rfl) (fun w' x_ => xpick_f rfl rfl) rfl rfl rfl F ?_
  refine h_take 28 rfl (by kernel_rfl) (by kernel_rfl) (by kernel_rfl) (fun w' x_ => xassign rfl) rfl rfl rfl F ?_
  refine h_doneC (by kernel_rfl) ?_
  refine run_ret Tryz.func18 (res1 rfl rfl) ?_
  have hA2 : (!(hasI j.S 0 && decide (0 < j.A.length))) = true := by rw [c5]; rfl
  exact ⟨_, rfl, by rw [isJur, hA2, Bool.true_and, ← hn1, c15]; rfl, E⟩
 refine vm_ rfl rfl rfl ?_
 refine oz_ (xfieldAddr fo32f1 rfl) rfl rfl ?_
 refine oz_ (v := .slice u2 n2 v2) (xload1 Tryz.isAgg24 rfl (O1.cells) rfl) rfl rfl ?_
 refine oz_ (xlen Tryz.underlying24 rfl) rfl rfl ?_
 refine oz_ (xgtr rfl rfl _ rfl) rfl rfl ?_
 refine ods (fun c10 => ?_) (fun c10 => ?_)
 ·
  refine oz_ (xpick_t rfl rfl) rfl rfl ?_
  refine ct_ rfl ?_
  refine sr_ ?_
  refine vn_ rfl rfl rfl ?_
  refine run_ret Tryz.func18 (res1 rfl rfl) ?_
  exact ⟨_, rfl, by rw [isJur, c5, decide_eq_true (by omega)]; rfl, E⟩
 refine oz_ (xpick_t rfl rfl) rfl rfl ?_
 refine cf_ rfl ?_
 refine run_seq ?_
 have RE := E
 have RO1 := O1
 refine run_heldC (Ext.refl _) (by kernel_rfl) ?_
 intro wh3 F
 have zh3 := F.size
 have E := E.trans F
 refine h_take 0 rfl (by kernel_rfl) (by kernel_rfl) (by kernel_rfl) (fun w' x_ => xfieldAddr fo32f0 rfl) rfl rfl rfl F ?_
 refine h_take 1 (v := .slice u1 n1 v1) rfl (by kernel_rfl) (by kernel_rfl) (by kernel_rfl) (fun w' x_ => xload1 Tryz.isAgg24 rfl ((RO1.cells).ext x_) rfl) rfl rfl rfl F ?_
 refine h_take 2 rfl (by kernel_rfl) (by kernel_rfl) (by kernel_rfl) (fun w' x_ => xlen Tryz.underlying24 rfl) rfl rfl rfl F ?_
 refine h_ready (rs := [3]) (by kernel_rfl) (by decide) ⟨?_, trivial⟩
 refine hs_call rfl (xcall Tryz.call42 rfl) rfl rfl rfl (Ret.pv (isSeats_ok ((n1 : Int)) _)) ?_
 rintro _ w3 ⟨rfl, e3⟩
 have z3 := e3.size
 have E := E.trans e3
 have F := F.trans e3
 refine ⟨F, ?_⟩
 refine h_bs (fun c15 => ?_) (fun c15 => ?_)
 ·
  refine h_take 4 rfl (by kernel_rfl) (by kernel_rfl) (by kernel_rfl) (fun w' x_ => xmove rfl) rfl rfl rfl F ?_
  refine h_take 5 rfl (by kernel_rfl) (by kernel_rfl) (by kernel_rfl) (fun w' x_ => xfieldAddr fo32f1 rfl) rfl rfl rfl F ?_
  refine h_take 6 (v := .slice u2 n2 v2) rfl (by kernel_rfl) (by kernel_rfl) (by kernel_rfl) (fun w' x_ => xload1 Tryz.isAgg24 rfl ((RO1.cells).ext x_) rfl) rfl rfl rfl F ?_
  refine h_take 7 rfl (by kernel_rfl) (by kernel_rfl) (by kernel_rfl) (fun w' x_ => xlen Tryz.underlying24 rfl) rfl rfl rfl F ?_
  refine h_ready (rs := [8]) (by kernel_rfl) (by decide) ⟨?_, trivial⟩
  refine hs_call rfl (xcall Tryz.call43 rfl) rfl rfl rfl (Ret.pv (few_ok ((n2 : Int)) (6) _)) ?_
  rintro _ w4 ⟨rfl, e4⟩
  have z4 := e4.size
  have E := E.trans e4
  have F := F.trans e4
  refine ⟨F, ?_⟩
  refine h_bs (fun c20 => ?_) (fun c20 => ?_)
  ·
   refine h_take 9 rfl (by kernel_rfl) (by kernel_rfl) (by kernel_rfl) (fun w' x_ => xpick_t rfl rfl) rfl rfl rfl F ?_
   refine h_take 10 rfl (by kernel_rfl) (by kernel_rfl) (by kernel_rfl) (fun w' x_ => xmove rfl) rfl rfl rfl F ?_
   refine h_take 11 rfl (by kernel_rfl) (by kernel_rfl) (by kernel_rfl) (fun w' x_ => xfieldAddr fo32f2 rfl) rfl rfl rfl F ?_
   refine h_take 12 (v := .slice u3 n3 v3) rfl (by kernel_rfl) (by kernel_rfl) (by kernel_rfl) (fun w' x_ => xload1 Tryz.isAgg24 rfl ((RO1.cells).ext x_) rfl) rfl rfl rfl F ?_
   refine h_take 13 rfl (by kernel_rfl) (by kernel_rfl) (by kernel_rfl) (fun w' x_ => xlen Tryz.underlying24 rfl) rfl rfl rfl F ?_
   refine h_ready (rs := [14]) (by kernel_rfl) (by decide) ⟨?_, trivial⟩
   refine hs_call rfl (xcall Tryz.call43 rfl) rfl rfl rfl (Ret.pv (few_ok ((n3 : Int)) (60) _)) ?_
   rintro _ w5 ⟨rfl, e5⟩
   have z5 := e5.size
   have E := E.trans e5
   have F := F.trans e5
   refine ⟨F, ?_⟩
   refine h_bs (fun c26 => ?_) (fun c26 => ?_)
   ·
    refine h_take 15 rfl (by kernel_rfl) (by kernel_rfl) (by kernel_rfl) (fun w' x_ => xpick_t rfl rfl) rfl rfl rfl F ?_
    refine h_take 16 rfl (by kernel_rfl) (by kernel_rfl) (by kernel_rfl) (fun w' x_ => xmove rfl) rfl rfl rfl F ?_
    refine h_take 17 rfl (by kernel_rfl) (by kernel_rfl) (by kernel_rfl) (fun w' x_ => xfieldAddr fo32f0 rfl) rfl rfl rfl F ?_
    refine h_take 18 (v := .slice u1 n1 v1) rfl (by kernel_rfl) (by kernel_rfl) (by kernel_rfl) (fun w' x_ => xload1 Tryz.isAgg24 rfl ((RO1.cells).ext x_) rfl) rfl rfl rfl F ?_
    refine h_take 20 rfl (by kernel_rfl) (by kernel_rfl) (by kernel_rfl) (fun w' x_ => xfieldAddr fo32f1 rfl) rfl rfl rfl F ?_
    refine h_take 21 (v := .slice u2 n2 v2) rfl (by kernel_rfl) (by kernel_rfl) (by kernel_rfl) (fun w' x_ => xload1 Tryz.isAgg24 rfl ((RO1.cells).ext x_) rfl) rfl rfl rfl F ?_
    refine h_take 22 rfl (by kernel_rfl) (by kernel_rfl) (by kernel_rfl) (fun w' x_ => xfieldAddr fo32f2 rfl) rfl rfl rfl F ?_
    refine h_take 23 (v := .slice u3 n3 v3) rfl (by kernel_rfl) (by kernel_rfl) (by kernel_rfl) (fun w' x_ => xload1 Tryz.isAgg24 rfl ((RO1.cells).ext x_) rfl) rfl rfl rfl F ?_
    refine h_ready (rs := [19]) (by kernel_rfl) (by decide) ⟨?_, trivial⟩
    refine hs_call rfl (xcall Tryz.call46 rfl) rfl rfl rfl (seated_ok _ _ _ _ _ (H1.ext E) (by omega)) ?_
    rintro _ w6 ⟨e6, q31, m31, d31, rfl, Q31⟩
    have z6 := e6.size
    have E := E.trans e6
    have F := F.trans e6
    have lG31 := Q31.len
    refine ⟨F, ?_⟩
    refine h_ready (rs := [24]) (by kernel_rfl) (by decide) ⟨?_, trivial⟩
    refine hs_build (len := 3) (vs := [.slice q31 m31 d31, .slice u2 n2 v2, .slice u3 n3 v3]) (cs := [.slice q31 m31 d31, .slice u2 n2 v2, .slice u3 n3 v3]) (sz := 1) Tryz.underlying36 inf24 rfl rfl (by decide) (by rfl) (by rfl) (by simp [Value.cells]) rfl F rfl rfl rfl ?_
    intro b7 w7 e7 hb7 hz7 O7
    have E := E.trans e7
    replace Q31 := Q31.ext e7
    have F := F.trans e7
    refine h_ready (rs := [25]) (by kernel_rfl) (by decide) ⟨?_, trivial⟩
    refine hs_call rfl (xcall Tryz.call45 rfl) rfl rfl rfl (joined_ok _ _ _ [seatedL j.S, j.A, j.L] _ (sn3 O7 (Q31.sl) (H2.ext E) (H3.ext E)) (by intro v hv_; simp only [List.mem_cons, List.not_mem_nil, or_false] at hv_; rcases hv_ with rfl | rfl | rfl <;> omega) (by omega)) ?_
    rintro _ w8 ⟨e8, q37, m37, d37, rfl, Q37⟩
    have z8 := e8.size
    have E := E.trans e8
    have F := F.trans e8
    rw [hfl] at Q37
    have lG37 := Q37.len
    refine ⟨F, ?_⟩
    refine h_ready (rs := [26]) (by kernel_rfl) (by decide) ⟨?_, trivial⟩
    refine hs_call rfl (xcall Tryz.call44 rfl) rfl rfl rfl (distinct_ok _ _ _ _ _ (Q37.sl)) ?_
    rintro _ w9 ⟨rfl, e9⟩
    have z9 := e9.size
    have E := E.trans e9
    have F := F.trans e9
    refine ⟨F, ?_⟩
    refine h_take 27 rfl (by kernel_rfl) (by kernel_rfl) (by kernel_rfl) (fun w' x_ => xpick_t rfl rfl) rfl rfl rfl F ?_
    refine h_take 28 rfl (by kernel_rfl) (by kernel_rfl) (by kernel_rfl) (fun w' x_ => xassign rfl) rfl rfl rfl F ?_
    refine h_doneC (by kernel_rfl) ?_
    refine run_ret Tryz.func18 (res1 rfl rfl) ?_
    have hA2 : (!(hasI j.S 0 && decide (0 < j.A.length))) = true := by rw [c5, decide_eq_false (by omega)]; rfl
    have hA : decide (j.A.length ≤ 6) = true := decide_eq_true (by simp only [decide_eq_true_eq] at c20; omega)
    have hL : decide (j.L.length ≤ 60) = true := decide_eq_true (by simp only [decide_eq_true_eq] at c26; omega)
    exact ⟨_, rfl, by rw [isJur, hA2, Bool.true_and, ← hn1, c15, hA, hL]; rfl, E⟩
   refine h_take 15 rfl (by kernel_rfl) (by kernel_rfl) (by kernel_rfl) (fun w' x_ => xpick_t rfl rfl) rfl rfl rfl F ?_
   refine h_take 16 rfl (by kernel_rfl) (by kernel_rfl) (by kernel_rfl) (fun w' x_ => xmove rfl) rfl rfl rfl F ?_
   refine h_takeg 17 rfl (by kernel_rfl) (by kernel_rfl) (by kernel_rfl) rfl rfl rfl F ?_
   refine h_takeg 18 rfl (by kernel_rfl) (by kernel_rfl) (by kernel_rfl) rfl rfl rfl F ?_
   refine h_takeg 19 rfl (by kernel_rfl) (by kernel_rfl) (by kernel_rfl) rfl rfl rfl F ?_
   refine h_takeg 20 rfl (by kernel_rfl) (by kernel_rfl) (by kernel_rfl) rfl rfl rfl F ?_
   refine h_takeg 21 rfl (by kernel_rfl) (by kernel_rfl) (by kernel_rfl) rfl rfl rfl F ?_
   refine h_takeg 22 rfl (by kernel_rfl) (by kernel_rfl) (by kernel_rfl) rfl rfl rfl F ?_
   refine h_takeg 23 rfl (by kernel_rfl) (by kernel_rfl) (by kernel_rfl) rfl rfl rfl F ?_
   refine h_takeg 24 rfl (by kernel_rfl) (by kernel_rfl) (by kernel_rfl) rfl rfl rfl F ?_
   refine h_takeg 25 rfl (by kernel_rfl) (by kernel_rfl) (by kernel_rfl) rfl rfl rfl F ?_
   refine h_takeg 26 rfl (by kernel_rfl) (by kernel_rfl) (by kernel_rfl) rfl rfl rfl F ?_
   refine h_take 27 rfl (by kernel_rfl) (by kernel_rfl) (by kernel_rfl) (fun w' x_ => xpick_f rfl rfl) rfl rfl rfl F ?_
   refine h_take 28 rfl (by kernel_rfl) (by kernel_rfl) (by kernel_rfl) (fun w' x_ => xassign rfl) rfl rfl rfl F ?_
   refine h_doneC (by kernel_rfl) ?_
   refine run_ret Tryz.func18 (res1 rfl rfl) ?_
   have hA2 : (!(hasI j.S 0 && decide (0 < j.A.length))) = true := by rw [c5, decide_eq_false (by omega)]; rfl
   have hA : decide (j.A.length ≤ 6) = true := decide_eq_true (by simp only [decide_eq_true_eq] at c20; omega)
   have hL : decide (j.L.length ≤ 60) = false := decide_eq_false (by simp only [decide_eq_false_iff_not] at c26; omega)
   exact ⟨_, rfl, by rw [isJur, hA2, Bool.true_and, ← hn1, c15, hA, hL]; rfl, E⟩
  refine h_take 9 rfl (by kernel_rfl) (by kernel_rfl) (by kernel_rfl) (fun w' x_ => xpick_t rfl rfl) rfl rfl rfl F ?_
  refine h_take 10 rfl (by kernel_rfl) (by kernel_rfl) (by kernel_rfl) (fun w' x_ => xmove rfl) rfl rfl rfl F ?_
  refine h_takeg 11 rfl (by kernel_rfl) (by kernel_rfl) (by kernel_rfl) rfl rfl rfl F ?_
  refine h_takeg 12 rfl (by kernel_rfl) (by kernel_rfl) (by kernel_rfl) rfl rfl rfl F ?_
  refine h_takeg 13 rfl (by kernel_rfl) (by kernel_rfl) (by kernel_rfl) rfl rfl rfl F ?_
  refine h_takeg 14 rfl (by kernel_rfl) (by kernel_rfl) (by kernel_rfl) rfl rfl rfl F ?_
  refine h_take 15 rfl (by kernel_rfl) (by kernel_rfl) (by kernel_rfl) (fun w' x_ => xpick_f rfl rfl) rfl rfl rfl F ?_
  refine h_take 16 rfl (by kernel_rfl) (by kernel_rfl) (by kernel_rfl) (fun w' x_ => xmove rfl) rfl rfl rfl F ?_
  refine h_takeg 17 rfl (by kernel_rfl) (by kernel_rfl) (by kernel_rfl) rfl rfl rfl F ?_
  refine h_takeg 18 rfl (by kernel_rfl) (by kernel_rfl) (by kernel_rfl) rfl rfl rfl F ?_
  refine h_takeg 19 rfl (by kernel_rfl) (by kernel_rfl) (by kernel_rfl) rfl rfl rfl F ?_
  refine h_takeg 20 rfl (by kernel_rfl) (by kernel_rfl) (by kernel_rfl) rfl rfl rfl F ?_
  refine h_takeg 21 rfl (by kernel_rfl) (by kernel_rfl) (by kernel_rfl) rfl rfl rfl F ?_
  refine h_takeg 22 rfl (by kernel_rfl) (by kernel_rfl) (by kernel_rfl) rfl rfl rfl F ?_
  refine h_takeg 23 rfl (by kernel_rfl) (by kernel_rfl) (by kernel_rfl) rfl rfl rfl F ?_
  refine h_takeg 24 rfl (by kernel_rfl) (by kernel_rfl) (by kernel_rfl) rfl rfl rfl F ?_
  refine h_takeg 25 rfl (by kernel_rfl) (by kernel_rfl) (by kernel_rfl) rfl rfl rfl F ?_
  refine h_takeg 26 rfl (by kernel_rfl) (by kernel_rfl) (by kernel_rfl) rfl rfl rfl F ?_
  refine h_take 27 rfl (by kernel_rfl) (by kernel_rfl) (by kernel_rfl) (fun w' x_ => xpick_f rfl rfl) rfl rfl rfl F ?_
  refine h_take 28 rfl (by kernel_rfl) (by kernel_rfl) (by kernel_rfl) (fun w' x_ => xassign rfl) rfl rfl rfl F ?_
  refine h_doneC (by kernel_rfl) ?_
  refine run_ret Tryz.func18 (res1 rfl rfl) ?_
  have hA2 : (!(hasI j.S 0 && decide (0 < j.A.length))) = true := by rw [c5, decide_eq_false (by omega)]; rfl
  have hA : decide (j.A.length ≤ 6) = false := decide_eq_false (by simp only [decide_eq_false_iff_not] at c20; omega)
  exact ⟨_, rfl, by rw [isJur, hA2, Bool.true_and, ← hn1, c15, ‹decide (j.A.length ≤ 6) = false›]; rfl, E⟩
 refine h_take 4 rfl (by kernel_rfl) (by kernel_rfl) (by kernel_rfl) (fun w' x_ => xmove rfl) rfl rfl rfl F ?_
 refine h_takeg 5 rfl (by kernel_rfl) (by kernel_rfl) (by kernel_rfl) rfl rfl rfl F ?_
 refine h_takeg 6 rfl (by kernel_rfl) (by kernel_rfl) (by kernel_rfl) rfl rfl rfl F ?_
 refine h_takeg 7 rfl (by kernel_rfl) (by kernel_rfl) (by kernel_rfl) rfl rfl rfl F ?_
 refine h_takeg 8 rfl (by kernel_rfl) (by kernel_rfl) (by kernel_rfl) rfl rfl rfl F ?_
 refine h_take 9 rfl (by kernel_rfl) (by kernel_rfl) (by kernel_rfl) (fun w' x_ => xpick_f rfl rfl) rfl rfl rfl F ?_
 refine h_take 10 rfl (by kernel_rfl) (by kernel_rfl) (by kernel_rfl) (fun w' x_ => xmove rfl) rfl rfl rfl F ?_
 refine h_takeg 11 rfl (by kernel_rfl) (by kernel_rfl) (by kernel_rfl) rfl rfl rfl F ?_
 refine h_takeg 12 rfl (by kernel_rfl) (by kernel_rfl) (by kernel_rfl) rfl rfl rfl F ?_
 refine h_takeg 13 rfl (by kernel_rfl) (by kernel_rfl) (by kernel_rfl) rfl rfl rfl F ?_
 refine h_takeg 14 rfl (by kernel_rfl) (by kernel_rfl) (by kernel_rfl) rfl rfl rfl F ?_
 refine h_take 15 rfl (by kernel_rfl) (by kernel_rfl) (by kernel_rfl) (fun w' x_ => xpick_f rfl rfl) rfl rfl rfl F ?_
 refine h_take 16 rfl (by kernel_rfl) (by kernel_rfl) (by kernel_rfl) (fun w' x_ => xmove rfl) rfl rfl rfl F ?_
 refine h_takeg 17 rfl (by kernel_rfl) (by kernel_rfl) (by kernel_rfl) rfl rfl rfl F ?_
 refine h_takeg 18 rfl (by kernel_rfl) (by kernel_rfl) (by kernel_rfl) rfl rfl rfl F ?_
 refine h_takeg 19 rfl (by kernel_rfl) (by kernel_rfl) (by kernel_rfl) rfl rfl rfl F ?_
 refine h_takeg 20 rfl (by kernel_rfl) (by kernel_rfl) (by kernel_rfl) rfl rfl rfl F ?_
 refine h_takeg 21 rfl (by kernel_rfl) (by kernel_rfl) (by kernel_rfl) rfl rfl rfl F ?_
 refine h_takeg 22 rfl (by kernel_rfl) (by kernel_rfl) (by kernel_rfl) rfl rfl rfl F ?_
 refine h_takeg 23 rfl (by kernel_rfl) (by kernel_rfl) (by kernel_rfl) rfl rfl rfl F ?_
 refine h_takeg 24 rfl (by kernel_rfl) (by kernel_rfl) (by kernel_rfl) rfl rfl rfl F ?_
 refine h_takeg 25 rfl (by kernel_rfl) (by kernel_rfl) (by kernel_rfl) rfl rfl rfl F ?_
 refine h_takeg 26 rfl (by kernel_rfl) (by kernel_rfl) (by kernel_rfl) rfl rfl rfl F ?_
 refine h_take 27 rfl (by kernel_rfl) (by kernel_rfl) (by kernel_rfl) (fun w' x_ => xpick_f rfl rfl) rfl rfl rfl F ?_
 refine h_take 28 rfl (by kernel_rfl) (by kernel_rfl) (by kernel_rfl) (fun w' x_ => xassign rfl) rfl rfl rfl F ?_
 refine h_doneC (by kernel_rfl) ?_
 refine run_ret Tryz.func18 (res1 rfl rfl) ?_
 have hA2 : (!(hasI j.S 0 && decide (0 < j.A.length))) = true := by rw [c5, decide_eq_false (by omega)]; rfl
 exact ⟨_, rfl, by rw [isJur, hA2, Bool.true_and, ← hn1, c15]; rfl, E⟩
set_option maxHeartbeats 400000 in
theorem likeJury_ok (u1 : Option Addr) (n1 v1 : Nat) (u2 : Option Addr) (n2 v2 : Nat) (u3 : Option Addr) (n3 v3 : Nat) (u4 : Option Addr) (n4 v4 : Nat) (u5 : Option Addr) (n5 v5 : Nat) (u6 : Option Addr) (n6 v6 : Nat) (j : Jur) (w : World) (H1 : Sl i64c 1 w u1 n1 v1 j.S) (H2 : Sl i64c 1 w u2 n2 v2 j.A) (H3 : Sl i64c 1 w u3 n3 v3 j.L) (K1 : Sl i64c 1 w u4 n4 v4 j.S) (K2 : Sl i64c 1 w u5 n5 v5 j.A) (K3 : Sl i64c 1 w u6 n6 v6 j.L) : Ret Tryz.prog 11 [.agg #[.slice u1 n1 v1, .slice u2 n2 v2, .slice u3 n3 v3], .agg #[.slice u4 n4 v4, .slice u5 n5 v5, .slice u6 n6 v6]] w (Pv w (.bool true)) := by
 refine ret_of_run (N := 24) Tryz.func11 rfl rfl rfl ?_
 have E : Ext w w := Ext.refl w
 refine sr_ ?_
 refine obox rfl rfl rfl ?_
 intro b1 w1 e1 hb1 hz1 O1
 have E := E.trans e1
 replace O1 : Own w1 b1 [.slice u1 n1 v1, .slice u2 n2 v2, .slice u3 n3 v3] 32 := O1
 refine obox rfl rfl rfl ?_
 intro b2 w2 e2 hb2 hz2 O2
 have E := E.trans e2
 replace O1 := O1.ext e2
 replace O2 : Own w2 b2 [.slice u4 n4 v4, .slice u5 n5 v5, .slice u6 n6 v6] 32 := O2
 refine vn_ rfl rfl rfl ?_
 refine sr_ ?_
 refine oz_ (xfieldAddr fo32f0 rfl) rfl rfl ?_
 refine oz_ (v := .slice u1 n1 v1) (xload1 Tryz.isAgg24 rfl (O1.cells) rfl) rfl rfl ?_
 refine oz_ (xfieldAddr fo32f0 rfl) rfl rfl ?_
 refine oz_ (v := .slice u4 n4 v4) (xload1 Tryz.isAgg24 rfl (O2.cells) rfl) rfl rfl ?_
 refine oc (xcall Tryz.call31 rfl) rfl rfl rfl (likeInts_ok _ _ _ _ _ _ _ _ (H1.ext E) (K1.ext E)) ?_
 rintro _ w3 ⟨rfl, e3⟩
 have z3 := e3.size
 have E := E.trans e3
 replace O1 := O1.ext e3
 replace O2 := O2.ext e3
 refine obs (fun c9 => ?_) (fun c9 => ?_)
 rotate_left
 ·
  exfalso; cases c9
 refine vm_ rfl rfl rfl ?_
 refine oz_ (xfieldAddr fo32f1 rfl) rfl rfl ?_
 refine oz_ (v := .slice u2 n2 v2) (xload1 Tryz.isAgg24 rfl (O1.cells) rfl) rfl rfl ?_
 refine oz_ (xfieldAddr fo32f1 rfl) rfl rfl ?_
 refine oz_ (v := .slice u5 n5 v5) (xload1 Tryz.isAgg24 rfl (O2.cells) rfl) rfl rfl ?_
 refine oc (xcall Tryz.call31 rfl) rfl rfl rfl (likeInts_ok _ _ _ _ _ _ _ _ (H2.ext E) (K2.ext E)) ?_
 rintro _ w4 ⟨rfl, e4⟩
 have z4 := e4.size
 have E := E.trans e4
 replace O1 := O1.ext e4
 replace O2 := O2.ext e4
 refine obs (fun c15 => ?_) (fun c15 => ?_)
 rotate_left
 ·
  exfalso; cases c15
 refine oz_ (xpick_t rfl rfl) rfl rfl ?_
 refine vm_ rfl rfl rfl ?_
 refine oz_ (xfieldAddr fo32f2 rfl) rfl rfl ?_
 refine oz_ (v := .slice u3 n3 v3) (xload1 Tryz.isAgg24 rfl (O1.cells) rfl) rfl rfl ?_
 refine oz_ (xfieldAddr fo32f2 rfl) rfl rfl ?_
 refine oz_ (v := .slice u6 n6 v6) (xload1 Tryz.isAgg24 rfl (O2.cells) rfl) rfl rfl ?_
 refine oc (xcall Tryz.call31 rfl) rfl rfl rfl (likeInts_ok _ _ _ _ _ _ _ _ (H3.ext E) (K3.ext E)) ?_
 rintro _ w5 ⟨rfl, e5⟩
 have z5 := e5.size
 have E := E.trans e5
 refine oz_ (xpick_t rfl rfl) rfl rfl ?_
 refine vn_ rfl rfl rfl ?_
 refine run_ret Tryz.func11 (res1 rfl rfl) ?_
 exact ⟨_, rfl, rfl, E⟩
end Go.Proofs.YtchblgaklknkcaaGreat
