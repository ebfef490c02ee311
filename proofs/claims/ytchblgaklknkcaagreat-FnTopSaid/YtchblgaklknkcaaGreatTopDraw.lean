/-
  What the law draws. No condition beyond those written in each theorem.
-/
import Derived.Test.YtchblgaklknkcaaGreatTDraw
import Derived.Test.YtchblgaklknkcaaGreatPollDraw
namespace Go.Proofs.YtchblgaklknkcaaGreat
open Go.RowKit
set_option linter.unusedVariables false
set_option linter.unusedSimpArgs false
set_option linter.unusedSectionVars false
set_option maxRecDepth 4000
set_option maxHeartbeats 2000000 in
theorem DrawPanelOfRecord_ok (p : Option Addr) (n c : Nat) (bs : List Int) (w : World) (H : Sl u8c 1 w p n c bs) (hbs : ∀ x ∈ bs, 0 ≤ x ∧ x ≤ 255) : Ret Tryz.prog 19 [.slice p n c] w (fun v w' => Ext w w' ∧ ∃ (r : Rec) (q1 : Option Addr) (m1 d1 : Nat) (q2 : Option Addr) (m2 d2 : Nat) (q3 : Option Addr) (m3 d3 : Nat) (ts : List Tie) (ps : List ByteArray) (q4 : Option Addr) (m4 d4 : Nat) (q5 : Option Addr) (m5 d5 : Nat), v = .tuple #[.agg #[.int .i64 r.C, .int .i64 r.St, .int .i64 r.Sa, .slice q1 m1 d1, .int .i64 r.Se, .slice q2 m2 d2, .slice q3 m3 d3, .int .i64 r.Me, .int .i64 r.Al], .slice q4 m4 d4, .slice q5 m5 d5] ∧ SlF i64c 1 w' w.heap.size w'.heap.size q1 m1 d1 (r.N) ∧ SlF i64c 1 w' w.heap.size w'.heap.size q2 m2 d2 (r.Sk) ∧ SlF i64c 1 w' w.heap.size w'.heap.size q3 m3 d3 (r.Mv) ∧ (∀ t ∈ ts, t.Party.size ≤ 9223372036854775807) ∧ SlF Tie.cells 4 w' w.heap.size w'.heap.size q4 m4 d4 ts ∧ (∀ y ∈ ps, y.size ≤ 9223372036854775807) ∧ SlF strc 1 w' w.heap.size w'.heap.size q5 m5 d5 ps) := by
 refine ret_of_run (N := 18) Tryz.func19 rfl rfl rfl ?_
 have hfar := H.blk (fun x => by simp [u8c])
 have E : Ext w w := Ext.refl w
 refine sr_ ?_
 refine oalloc Tryz.zeroValue26 rfl rfl ?_
 intro b1 w1 e1 hb1 hz1 O1
 have E := E.trans e1
 replace O1 : Own w1 b1 [.int .i64 0, .int .i64 0, .int .i64 0, .slice none 0 0, .int .i64 0, .slice none 0 0, .slice none 0 0, .int .i64 0, .int .i64 0] 26 := O1
 refine va_ rfl rfl rfl ?_
 refine vn_ rfl rfl rfl ?_
 refine sr_ ?_
 refine vm_ rfl rfl rfl ?_
 refine oc (xcall Tryz.call25 rfl) rfl rfl rfl (l01From_ok _ _ _ _ _ (H.ext E) (by assumption) w.heap.size hfar (by omega)) ?_
 rintro _ w2 ⟨e2, b9_, rfl, hcb9, S⟩
 have z2 := e2.size
 have E := E.trans e2
 replace O1 := O1.ext e2
 have hcc9 := S.cb
 have hbl9 := S.lt
 refine vn_ rfl rfl rfl ?_
 refine sr_ ?_
 refine vm_ rfl rfl rfl ?_
 refine oc (xcall Tryz.call47 rfl) rfl rfl rfl (l16Draw_ok b9_ w.heap.size _ S) ?_
 rintro _ w3 ⟨r11_0, r11_1, r11_2, r11_3, r11_4, r11_5, r11_6, r11_7, r11_8, r11_9, rfl, h11_0, h11_1, h11_2, m3, S3⟩
 have z3 := m3.size
 have E := m3.toExt E (by omega)
 replace O1 := m3.own O1 (by omega)
 replace S := S3
 refine oalloc Tryz.zeroValue26 rfl rfl ?_
 intro b4 w4 e4 hb4 hz4 O4
 have E := E.trans e4
 replace S := S.ext e4
 replace h11_0 := h11_0.ext e4
 replace h11_1 := h11_1.ext e4
 replace h11_2 := h11_2.ext e4
 replace O1 := O1.ext e4
 replace O4 : Own w4 b4 [.int .i64 0, .int .i64 0, .int .i64 0, .slice none 0 0, .int .i64 0, .slice none 0 0, .slice none 0 0, .int .i64 0, .int .i64 0] 26 := O4
 refine ostoreN (vs := _) Tryz.sizeOf26 rfl rfl O4 rfl (by simp) (by simp [Value.oneCell']) rfl ?_
 intro w5 on5 O5
 have hz5 := on5.size
 have E := on5.ext E (by omega)
 replace S := S.off (Mk.ofOnly on5 (Nat.le_refl _) (Nat.lt_succ_self _)) (by omega)
 replace h11_0 := h11_0.only on5 (by omega)
 replace h11_1 := h11_1.only on5 (by omega)
 replace h11_2 := h11_2.only on5 (by omega)
 replace O1 := on5.own O1 (by omega)
 replace O5 : Own w5 b4 [.int .i64 (r11_0).C, .int .i64 (r11_0).St, .int .i64 (r11_0).Sa, .slice r11_1 r11_2 r11_3, .int .i64 (r11_0).Se, .slice r11_4 r11_5 r11_6, .slice r11_7 r11_8 r11_9, .int .i64 (r11_0).Me, .int .i64 (r11_0).Al] 26 := O5
 refine ops_nil ?_
 refine sr_ ?_
 refine vm_ rfl rfl rfl ?_
 refine oc (xcall Tryz.call48 rfl) rfl rfl rfl (l13Ties_ok b9_ w.heap.size _ S) ?_
 rintro _ w6 ⟨r13_0, r13_1, r13_2, r13_3, rfl, h13_0, h13_1, m6, S6⟩
 have z6 := m6.size
 have E := m6.toExt E (by omega)
 replace h11_0 := h11_0.off m6 (by omega)
 replace h11_1 := h11_1.off m6 (by omega)
 replace h11_2 := h11_2.off m6 (by omega)
 replace O1 := m6.own O1 (by omega)
 replace O5 := m6.own O5 (by omega)
 replace S := S6
 refine vn_ rfl rfl rfl ?_
 refine run_seq ?_
 refine run_rg (τ := [(2, .pointer (some ⟨b1, 0, none⟩)), (5, .pointer (some ⟨b9_, 0, none⟩)), (6, .pointer (some ⟨b4, 0, none⟩)), (7, .slice r13_1 r13_2 r13_3)]) 7 [14, 15, 16, 17, 3, 4] (fun u_ => Mk b1 (b9_ + 1) w6 u_ ∧ Src u_ b9_ w.heap.size ∧ ∃ cs_ : List Value, cs_.length = 9 ∧ Own u_ b1 cs_ 26) (fun i_ => if i_ = 4 then Mk b1 (b1 + 1) else Mk b9_ (b9_ + 1)) (fun i_ v_ u_ => match i_ with | 0 => v_ = .agg #[.int .i64 (r11_0).C, .int .i64 (r11_0).St, .int .i64 (r11_0).Sa, .slice r11_1 r11_2 r11_3, .int .i64 (r11_0).Se, .slice r11_4 r11_5 r11_6, .slice r11_7 r11_8 r11_9, .int .i64 (r11_0).Me, .int .i64 (r11_0).Al] | 1 => v_ = .slice r13_1 r13_2 r13_3 | 2 => v_ = .pointer (some ⟨b9_, 0, none⟩) | 3 => ∃ (y0_ : List ByteArray) (y1_ : Option Addr) (y2_ : Nat) (y3_ : Nat), v_ = .slice y1_ y2_ y3_ ∧ ((∀ y ∈ y0_, y.size ≤ 9223372036854775807)) ∧ (SlF strc 1 u_ w6.heap.size u_.heap.size y1_ y2_ y3_ y0_) | 4 => (Own u_ b1 [.int .i64 (r11_0).C, .int .i64 (r11_0).St, .int .i64 (r11_0).Sa, .slice r11_1 r11_2 r11_3, .int .i64 (r11_0).Se, .slice r11_4 r11_5 r11_6, .slice r11_7 r11_8 r11_9, .int .i64 (r11_0).Me, .int .i64 (r11_0).Al] 26) | 5 => v_ = .slice r13_1 r13_2 r13_3 | 6 => ∃ (y0_ : List ByteArray) (y1_ : Option Addr) (y2_ : Nat) (y3_ : Nat), v_ = .slice y1_ y2_ y3_ ∧ ((∀ y ∈ y0_, y.size ≤ 9223372036854775807)) ∧ (SlF strc 1 u_ w6.heap.size u_.heap.size y1_ y2_ y3_ y0_) | _ => True) [(4, none), (5, some 3), (6, some 4)] (by kernel_rfl) (by kernel_rfl) (by kernel_rfl) (by kernel_rfl) (by kernel_rfl) (by kernel_rfl) ⟨rfl, rfl, rfl, rfl, trivial⟩ rfl (fun u_ e_ z_ => ⟨Mk.ofExt e_, S.ext e_, ⟨_, rfl, O1.ext e_⟩⟩) ?_ ?_ ?_
 ·
  intro i_ j_ hi_ hj_ hij_ v_ u_ u2_ I_ I2_ r_ g_
  have zu_ := I_.1.size
  have rw_ : Mk b1 (b9_ + 1) u_ u2_ := by
    by_cases h_ : i_ = 4
    · simp only [h_, if_true] at r_; exact r_.wide (by omega) (by omega)
    · simp only [h_, if_false] at r_; exact r_.wide (by omega) (by omega)
  have rs_ : i_ ≠ 4 → Mk b9_ (b9_ + 1) u_ u2_ := fun h_ => by simp only [h_, if_false] at r_; exact r_
  clear hi_
  rcases (by omega : j_ = 0 ∨ j_ = 1 ∨ j_ = 2 ∨ j_ = 3 ∨ j_ = 4 ∨ j_ = 5 ∨ j_ = 6) with rfl | rfl | rfl | rfl | rfl | rfl | rfl
  ·
   exact g_
  ·
   exact g_
  ·
   exact g_
  ·
   obtain ⟨g17_0, g17_1, g17_2, g17_3, rfl, f17_0, f17_1⟩ := g_
   exact ⟨g17_0, g17_1, g17_2, g17_3, rfl, f17_0, (f17_1.off rw_ (by omega)).wide (Nat.le_refl _) (by have := (rw_).size; omega)⟩
  ·
   have f904_0 := g_
   exact (rs_ hij_).own f904_0 (by omega)
  ·
   exact g_
  obtain ⟨g4_0, g4_1, g4_2, g4_3, rfl, f4_0, f4_1⟩ := g_
  exact ⟨g4_0, g4_1, g4_2, g4_3, rfl, f4_0, (f4_1.off rw_ (by omega)).wide (Nat.le_refl _) (by have := (rw_).size; omega)⟩
 ·
  refine rga [] (by kernel_rfl) ?_ ?_
  ·
   intro u_ I_
   have zu_ := I_.1.size
   have OB_ := I_.1.own O5 (by omega)
   refine rg_val (xloadN Tryz.isAgg26 Tryz.sizeOf26 rfl (OB_.cells) rfl) rfl I_ (by simpa using Mk.refl _ _ _) rfl
  refine rga [] (by kernel_rfl) ?_ ?_
  ·
   intro u_ I_
   have zu_ := I_.1.size
   refine rg_val (xmove rfl) rfl I_ (by simpa using Mk.refl _ _ _) rfl
  refine rga [] (by kernel_rfl) ?_ ?_
  ·
   intro u_ I_
   have zu_ := I_.1.size
   refine rg_val (xmove rfl) rfl I_ (by simpa using Mk.refl _ _ _) rfl
  refine rga [(2, some 16)] (by kernel_rfl) ?_ ?_
  ·
   rintro u_ I_ _ rfl
   have zu_ := I_.1.size
   refine rg_call (xcall Tryz.call49 rfl) rfl (l13Parties_ok b9_ w.heap.size _ I_.2.1) ?_
   rintro _ w_ ⟨r_0, r_1, r_2, r_3, rfl, h_0, h_1, m_, S_⟩
   exact ⟨⟨I_.1.trans (m_.wide (by omega) (by omega)), S_, (let ⟨cs_, hl_, ho_⟩ := I_.2.2; ⟨cs_, hl_, m_.own ho_ (by omega)⟩)⟩, (by simpa using m_), ⟨r_0, r_1, r_2, r_3, rfl, h_0, h_1.wide (by omega) (Nat.le_refl _)⟩⟩
  refine rga [(0, some 14)] (by kernel_rfl) ?_ ?_
  ·
   rintro u_ I_ _ rfl
   have zu_ := I_.1.size
   obtain ⟨I1_, I2_, cs_, hl_, ho_⟩ := I_
   refine rg_storeN (vs := [.int .i64 (r11_0).C, .int .i64 (r11_0).St, .int .i64 (r11_0).Sa, .slice r11_1 r11_2 r11_3, .int .i64 (r11_0).Se, .slice r11_4 r11_5 r11_6, .slice r11_7 r11_8 r11_9, .int .i64 (r11_0).Me, .int .i64 (r11_0).Al]) Tryz.sizeOf26 rfl rfl ho_ rfl hl_ (by simp [Value.oneCell']) rfl ?_
   intro w_ on_ o_
   refine ⟨⟨I1_.trans (Mk.ofOnly on_ (by omega) (by omega)), I2_.off (Mk.ofOnly on_ (Nat.le_refl _) (Nat.lt_succ_self _)) (by omega), ⟨_, rfl, o_⟩⟩, (by simpa using Mk.ofOnly on_ (Nat.le_refl _) (Nat.lt_succ_self _)), o_⟩
  refine rga [(1, some 15)] (by kernel_rfl) ?_ ?_
  ·
   rintro u_ I_ _ rfl
   have zu_ := I_.1.size
   refine rg_val (xassign rfl) rfl I_ (by simpa using Mk.refl _ _ _) rfl
  refine rga [(3, some 17)] (by kernel_rfl) ?_ ?_
  ·
   rintro u_ I_ _ ⟨g17_0, g17_1, g17_2, g17_3, rfl, f17_0, f17_1⟩
   have zu_ := I_.1.size
   refine rg_val (xassign rfl) rfl I_ (by simpa using Mk.refl _ _ _) ⟨g17_0, g17_1, g17_2, g17_3, rfl, f17_0, f17_1⟩
  exact rga_nil
 rintro w7 I_ _ f904_0 _ rfl _ ⟨g4_0, g4_1, g4_2, g4_3, rfl, f4_0, f4_1⟩
 have m7 := I_.1
 have z7 := m7.size
 have E := m7.toExt E (by omega)
 replace h11_0 := h11_0.off m7 (by omega)
 replace h11_1 := h11_1.off m7 (by omega)
 replace h11_2 := h11_2.off m7 (by omega)
 replace h13_1 := h13_1.off m7 (by omega)
 refine ops_nil ?_
 refine run_ret Tryz.func19 (rescCTT rfl rfl (run_loadVar_cells Tryz.isAgg26 Tryz.sizeOf26 f904_0.cells rfl) rfl rfl) ?_
 exact ⟨_, rfl, E, r11_0, _, _, _, _, _, _, _, _, _, _, _, _, _, _, _, _, _, rfl, (h11_0.wide (by omega) (by omega)), (h11_1.wide (by omega) (by omega)), (h11_2.wide (by omega) (by omega)), h13_0, h13_1.wide (by omega) (by omega), f4_0, f4_1.wide (by omega) (by omega)⟩
set_option maxHeartbeats 1000000 in
theorem DrawReplayRecord_ok (p : Option Addr) (n c : Nat) (bs : List Int) (w : World) (H : Sl u8c 1 w p n c bs) (hbs : ∀ x ∈ bs, 0 ≤ x ∧ x ≤ 255) : Ret Tryz.prog 5 [.slice p n c] w (fun v w' => Ext w w' ∧ ∃ (r : Rec) (q1 : Option Addr) (m1 d1 : Nat) (q2 : Option Addr) (m2 d2 : Nat) (q3 : Option Addr) (m3 d3 : Nat) (ts : List Tie) (ps : List ByteArray) (q4 : Option Addr) (m4 d4 : Nat) (q5 : Option Addr) (m5 d5 : Nat), v = .tuple #[.agg #[.int .i64 r.C, .int .i64 r.St, .int .i64 r.Sa, .slice q1 m1 d1, .int .i64 r.Se, .slice q2 m2 d2, .slice q3 m3 d3, .int .i64 r.Me, .int .i64 r.Al], .slice q4 m4 d4, .slice q5 m5 d5] ∧ SlF i64c 1 w' w.heap.size w'.heap.size q1 m1 d1 (r.N) ∧ SlF i64c 1 w' w.heap.size w'.heap.size q2 m2 d2 (r.Sk) ∧ SlF i64c 1 w' w.heap.size w'.heap.size q3 m3 d3 (r.Mv) ∧ (∀ t ∈ ts, t.Party.size ≤ 9223372036854775807) ∧ SlF Tie.cells 4 w' w.heap.size w'.heap.size q4 m4 d4 ts ∧ (∀ y ∈ ps, y.size ≤ 9223372036854775807) ∧ SlF strc 1 w' w.heap.size w'.heap.size q5 m5 d5 ps) := by
 refine ret_of_run (N := 10) Tryz.func5 rfl rfl rfl ?_
 have hfar := H.blk (fun x => by simp [u8c])
 have E : Ext w w := Ext.refl w
 refine sr_ ?_
 refine oalloc Tryz.zeroValue26 rfl rfl ?_
 intro b1 w1 e1 hb1 hz1 O1
 have E := E.trans e1
 replace O1 : Own w1 b1 [.int .i64 0, .int .i64 0, .int .i64 0, .slice none 0 0, .int .i64 0, .slice none 0 0, .slice none 0 0, .int .i64 0, .int .i64 0] 26 := O1
 refine va_ rfl rfl rfl ?_
 refine vn_ rfl rfl rfl ?_
 refine sr_ ?_
 refine vm_ rfl rfl rfl ?_
 refine oc (xcall Tryz.call19 rfl) rfl rfl rfl (DrawPanelOfRecord_ok _ _ _ _ _ (H.ext E) (by assumption)) ?_
 rintro _ w2 ⟨e2, r6, q6_1, m6_1, d6_1, q6_2, m6_2, d6_2, q6_3, m6_3, d6_3, ts6, ps6, q6_4, m6_4, d6_4, q6_5, m6_5, d6_5, rfl, F6_1, F6_2, F6_3, ht6, F6_4, hp6, F6_5⟩
 have z2 := e2.size
 have E := E.trans e2
 replace O1 := O1.ext e2
 have lF6_1 := F6_1.sl.len
 have lF6_2 := F6_2.sl.len
 have lF6_3 := F6_3.sl.len
 have lF6_4 := F6_4.sl.len
 have lF6_5 := F6_5.sl.len
 refine oz_ (xextract rfl rfl) rfl rfl ?_
 refine oz_ (xextract rfl rfl) rfl rfl ?_
 refine oz_ (xextract rfl rfl) rfl rfl ?_
 refine ostoreN (vs := _) Tryz.sizeOf26 rfl rfl O1 rfl (by simp) (by simp [Value.oneCell']) rfl ?_
 intro w3 on3 O3
 have hz3 := on3.size
 have E := on3.ext E (by omega)
 replace F6_1 := F6_1.only on3 (by omega)
 replace F6_2 := F6_2.only on3 (by omega)
 replace F6_3 := F6_3.only on3 (by omega)
 replace F6_4 := F6_4.only on3 (by omega)
 replace F6_5 := F6_5.only on3 (by omega)
 replace O3 : Own w3 b1 [.int .i64 r6.C, .int .i64 r6.St, .int .i64 r6.Sa, .slice q6_1 m6_1 d6_1, .int .i64 r6.Se, .slice q6_2 m6_2 d6_2, .slice q6_3 m6_3 d6_3, .int .i64 r6.Me, .int .i64 r6.Al] 26 := O3
 refine va_ rfl rfl rfl ?_
 refine vn_ rfl rfl rfl ?_
 refine run_ret Tryz.func5 (rescCTT rfl rfl (run_loadVar_cells Tryz.isAgg26 Tryz.sizeOf26 O3.cells rfl) rfl rfl) ?_
 exact ⟨_, rfl, E, r6, _, _, _, _, _, _, _, _, _, ts6, ps6, _, _, _, _, _, _, rfl, F6_1.wide (by omega) (by omega), F6_2.wide (by omega) (by omega), F6_3.wide (by omega) (by omega), ht6, F6_4.wide (by omega) (by omega), hp6, F6_5.wide (by omega) (by omega)⟩
set_option maxHeartbeats 1000000 in
theorem DrawPollVerdict_ok (p : Option Addr) (n c : Nat) (bs : List Int) (w : World) (H : Sl u8c 1 w p n c bs) (hbs : ∀ x ∈ bs, 0 ≤ x ∧ x ≤ 255) : Ret Tryz.prog 8 [.slice p n c] w (fun v w' => Ext w w' ∧ ∃ (xs : List Question) (q : Option Addr) (m d : Nat) (vs : List (List Int)) (nd : Int) (p2 : Option Addr) (n2 c2 : Nat), v = .tuple #[.slice q m d, .agg #[.int .i64 nd, .slice p2 n2 c2]] ∧ (∀ x ∈ xs, x.Label.size ≤ 9223372036854775807) ∧ m ≤ 11 ∧ SlF Question.cells 3 w' w.heap.size w'.heap.size q m d xs ∧ OnInt64SS w' w.heap.size w'.heap.size p2 n2 c2 vs ∧ n2 ≤ 13) := by
 refine ret_of_run (N := 9) Tryz.func8 rfl rfl rfl ?_
 have hfar := H.blk (fun x => by simp [u8c])
 have E : Ext w w := Ext.refl w
 refine sr_ ?_
 refine va_ rfl rfl rfl ?_
 refine oalloc Tryz.zeroValue38 rfl rfl ?_
 intro b1 w1 e1 hb1 hz1 O1
 have E := E.trans e1
 replace O1 : Own w1 b1 [.int .i64 0, .slice none 0 0] 38 := O1
 refine ops_nil ?_
 refine sr_ ?_
 refine vm_ rfl rfl rfl ?_
 refine oc (xcall Tryz.call25 rfl) rfl rfl rfl (l01From_ok _ _ _ _ _ (H.ext E) (by assumption) w.heap.size hfar (by omega)) ?_
 rintro _ w2 ⟨e2, b5_, rfl, hcb5, S⟩
 have z2 := e2.size
 have E := E.trans e2
 replace O1 := O1.ext e2
 have hcc5 := S.cb
 have hbl5 := S.lt
 refine oc (xcall Tryz.call24 rfl) rfl rfl rfl (l27Draw_ok b5_ w.heap.size _ S) ?_
 rintro _ w3 ⟨r6_0, r6_1, r6_2, r6_3, r6_4, r6_5, r6_6, r6_7, r6_8, rfl, h6_0, h6_1, h6_2, h6_3, h6_4, m3, S3⟩
 have z3 := m3.size
 have E := m3.toExt E (by omega)
 replace O1 := m3.own O1 (by omega)
 refine oz_ (xextract rfl rfl) rfl rfl ?_
 refine oz_ (xextract rfl rfl) rfl rfl ?_
 refine va_ rfl rfl rfl ?_
 refine ostoreN (vs := _) Tryz.sizeOf38 rfl rfl O1 rfl (by simp) (by simp [Value.oneCell']) rfl ?_
 intro w4 on4 O4
 have hz4 := on4.size
 have E := on4.ext E (by omega)
 replace h6_2 := h6_2.only on4 (by omega)
 replace h6_3 := h6_3.only on4 (by omega)
 replace O4 : Own w4 b1 [.int .i64 r6_5, .slice r6_6 r6_7 r6_8] 38 := O4
 refine ops_nil ?_
 refine run_ret Tryz.func8 (rescT rfl rfl rfl (run_loadVar_cells Tryz.isAgg38 Tryz.sizeOf38 O4.cells rfl)) ?_
 exact ⟨_, rfl, E, _, _, _, _, _, _, _, _, _, rfl, h6_0, by omega, h6_2.wide (by omega) (by omega), h6_3.wide (by omega) (by omega), by omega⟩
set_option maxHeartbeats 400000 in
theorem hasIntE_ok (p : Option Addr) (n c : Nat) (xs : List Int) (x : Int) (w : World) (H : Sl i64c 1 w p n c xs) : Ret Tryz.prog 15 [.slice p n c, .int .i64 x] w (Pv w (.bool (hasI xs x))) := by
 refine ret_of_run (N := 18) Tryz.func15 rfl rfl rfl ?_
 have hn := H.len
 have hn6 := H.n64
 have E : Ext w w := Ext.refl w
 refine sr_ ?_
 refine vn_ rfl rfl rfl ?_
 refine run_seq ?_
 refine sr_ ?_
 refine vn_ rfl rfl rfl ?_
 refine run_block ?_
 refine run_loop (ι := Nat × World) (fun x_ => match x_ with | (k, wr) => (Ext w wr) ∧ (w.heap.size ≤ wr.heap.size) ∧ (k ≤ n) ∧ (∀ j (hj : j < xs.length), j < k → xs[j] ≠ x)) (fun x_ => match x_ with | (k, wr) => [(0, .slice p n c), (1, .int .i64 x), (5, .int .i64 (k : Int))]) (fun x_ => match x_ with | (k, wr) => wr) (fun x_ => match x_ with | (k, wr) => n - k) ?_ (0, w) (⟨E, Nat.le_refl _, by omega, fun j hj h => absurd h (Nat.not_lt_zero j)⟩) ⟨rfl, rfl, rfl, trivial⟩ rfl
 intro i_ hI_ hback2
 obtain ⟨k, wr⟩ := i_
 obtain ⟨E, lz_wr, hk, ha⟩ := hI_
 try dsimp only
 have zr := E.size
 refine run_seq ?_
 refine sr_ ?_
 refine vm_ rfl rfl rfl ?_
 refine vm_ rfl rfl rfl ?_
 refine oz_ (xlen Tryz.underlying24 rfl) rfl rfl ?_
 refine oz_ (xlss rfl rfl _ rfl) rfl rfl ?_
 refine ods (fun c9 => ?_) (fun c9 => ?_)
 rotate_left
 ·
  refine cg_ rfl ?_
  refine run_exit rfl ?_
  refine sr_ ?_
  refine vn_ rfl rfl rfl ?_
  refine run_ret Tryz.func15 (res1 rfl rfl) ?_
  exact ⟨_, rfl, by rw [hasI_f ha (by omega)], E⟩
 refine ct_ rfl ?_
 refine run_skip ?_
 refine run_seq ?_
 refine run_block ?_
 refine sr_ ?_
 refine vm_ rfl rfl rfl ?_
 refine vm_ rfl rfl rfl ?_
 have h14 := (H.ext E).at (i := k) (by omega)
 refine oz_ (xindexN (i := k) Tryz.underlying24 Tryz.sizeOf2 rfl rfl rfl ((H.ext E).p (i := k) (by omega)) (by have := (H.ext E).len; omega)) rfl rfl ?_
 refine oz_ (v := .int .i64 xs[k]) (xloadz Tryz.isAgg2 rfl (h14) rfl) rfl rfl ?_
 refine vm_ rfl rfl rfl ?_
 refine oz_ (xeql rfl rfl _ rfl) rfl rfl ?_
 refine ods (fun c17 => ?_) (fun c17 => ?_)
 ·
  refine ct_ rfl ?_
  refine sr_ ?_
  refine vn_ rfl rfl rfl ?_
  refine run_ret Tryz.func15 (res1 rfl rfl) ?_
  exact ⟨_, rfl, by rw [hasI_t (k := k) (by omega) (by omega)], E⟩
 refine cf_ rfl ?_
 refine run_inBlock ?_
 refine run_region ?_
 refine vm_ rfl rfl rfl ?_
 refine oz_ (xadd rfl rfl (by unfold I64; omega)) rfl rfl ?_
 refine vn_ rfl rfl rfl ?_
 refine run_sub ?_ (hback2 (k + 1, wr) (⟨E, by omega, by omega, below_succ (q := fun y => y ≠ x) ha (fun _ => by omega)⟩) (by first | omega | (dsimp only; omega)))
 exact ⟨rfl, rfl, rfl, trivial⟩
end Go.Proofs.YtchblgaklknkcaaGreat
