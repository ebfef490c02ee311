/-
  The law on juries and verdicts: the walk. No condition beyond those written in each theorem.
-/
import Derived.Test.YtchblgaklknkcaaGreatTopDraw
import Derived.Test.YtchblgaklknkcaaGreatUseF
import Derived.Test.YtchblgaklknkcaaGreatPolls2
namespace Go.Proofs.YtchblgaklknkcaaGreat
open Go.RowKit
set_option linter.unusedVariables false
set_option linter.unusedSimpArgs false
set_option linter.unusedSectionVars false
set_option maxRecDepth 4000
theorem run_join {P : Program} {f : FuncId} {N : Nat} {R : Ending → World → Prop} {k : List Item} {A C : Code} {τ σ : Env} {w : World} (I : World → Prop) (hA : (∀ w', I w' → Run P f N R (.code C :: k) τ w') → Run P f N R (.code (.seq A C) :: k) σ w)
    (hk : ∀ w', I w' → Run P f N R (.code C :: k) τ w') : Run P f N R (.code (.seq A C) :: k) σ w := hA hk
theorem true_same {r : Rec} {ts : List Tie} {ps : List ByteArray} (h : recOk r ts ps = true) (hj : juryR r ts ps = replayR r ts ps) (h0 : (replayR r ts ps).2 = 0) : trueR r ts ps (replayR r ts ps).1 = (honR r, 0) := by
 rw [tru_t h, hj, decide_eq_true h0, eqL_refl eqI_refl, eqL_refl eqI_refl, eqL_refl eqI_refl]; simp
theorem true_other {r : Rec} {ts : List Tie} {ps : List ByteArray} {j : Jur} (h : recOk r ts ps = true) (hj : juryR r ts ps = replayR r ts ps) (hl : j.L.length ≠ (replayR r ts ps).1.L.length) : trueR r ts ps j = (false, 0) := by
 rw [tru_t h, hj, eqL_ne hl]; simp
theorem jur_len {j : Jur} (h : isJur j = true) : j.S.length ≤ 12 ∧ j.A.length ≤ 6 ∧ j.L.length ≤ 60 := by
 simp only [isJur, Bool.and_eq_true, decide_eq_true_eq, inR_iff] at h; omega
theorem mem_in {S A N : List Int} (h : ∀ x ∈ S ++ A, x ∈ N) {i : Nat} (hi : i < ([] ++ S ++ A).length) : hasI N (([] ++ S ++ A)[i]) = true := by
 rw [hasI_iff]; exact h _ (by simp)
attribute [local irreducible] areTies causeB biasB clr clearP emptyP isPan meas bad overS passCode strCode playS isSel areStr moveCode moveS isRec areCase lstR mkPan swear juryR replayR trueR honR isHonR recOk recCode shF panR pollVerdict answersOf verdictOf verdictsOf isPoll isForm isJur hasI
set_option maxHeartbeats 20000000 in
theorem FnTop_ok (p : Option Addr) (n c : Nat) (bs : List Int) (w : World) (H : Sl u8c 1 w p n c bs) (hbs : ∀ x ∈ bs, 0 ≤ x ∧ x ≤ 255) : Ret Tryz.prog 3 [.slice p n c] w (Pv w (.bool true)) := by
 refine ret_of_run (N := 221) Tryz.func3 rfl rfl rfl ?_
 have hfar := H.blk (fun x => by simp [u8c])
 have hn := H.len
 have E : Ext w w := Ext.refl w
 refine sr_ ?_
 refine vn_ rfl rfl rfl ?_
 refine run_seq ?_
 refine sr_ ?_
 refine vm_ rfl rfl rfl ?_
 refine oc (xcall Tryz.call4 rfl) rfl rfl rfl (big_ok _ _ _ _ _ (H.ext E)) ?_
 rintro _ w1 ⟨rfl, e1⟩
 have z1 := e1.size
 have E := E.trans e1
 refine obs (fun c32 => ?_) (fun c32 => ?_)
 ·
  refine ct_ rfl ?_
  refine sr_ ?_
  refine vn_ rfl rfl rfl ?_
  refine run_ret Tryz.func3 (res1 rfl rfl) ?_
  exact ⟨_, rfl, rfl, E⟩
 refine cf_ rfl ?_
 refine sr_ ?_
 refine vm_ rfl rfl rfl ?_
 refine oc (xcall Tryz.call5 rfl) rfl rfl rfl (DrawReplayRecord_ok _ _ _ _ _ (H.ext E) (by assumption)) ?_
 rintro _ w2 ⟨e2, r35, q35_1, m35_1, d35_1, q35_2, m35_2, d35_2, q35_3, m35_3, d35_3, ts35, ps35, q35_4, m35_4, d35_4, q35_5, m35_5, d35_5, rfl, F35_1, F35_2, F35_3, ht35, F35_4, hp35, F35_5⟩
 have z2 := e2.size
 have E := E.trans e2
 have lF35_1 := F35_1.sl.len
 have lF35_2 := F35_2.sl.len
 have lF35_3 := F35_3.sl.len
 have lF35_4 := F35_4.sl.len
 have lF35_5 := F35_5.sl.len
 refine vm_ rfl rfl rfl ?_
 refine oz_ (xextract rfl rfl) rfl rfl ?_
 refine oz_ (xextract rfl rfl) rfl rfl ?_
 refine oz_ (xextract rfl rfl) rfl rfl ?_
 refine oalloc Tryz.zeroValue26 rfl rfl ?_
 intro b3 w3 e3 hb3 hz3 O3
 have E := E.trans e3
 replace F35_1 := F35_1.ext e3
 replace F35_2 := F35_2.ext e3
 replace F35_3 := F35_3.ext e3
 replace F35_4 := F35_4.ext e3
 replace F35_5 := F35_5.ext e3
 replace O3 : Own w3 b3 [.int .i64 0, .int .i64 0, .int .i64 0, .slice none 0 0, .int .i64 0, .slice none 0 0, .slice none 0 0, .int .i64 0, .int .i64 0] 26 := O3
 refine ostoreN (vs := _) Tryz.sizeOf26 rfl rfl O3 rfl (by simp) (by simp [Value.oneCell']) rfl ?_
 intro w4 on4 O4
 have hz4 := on4.size
 have E := on4.ext E (by omega)
 replace F35_1 := F35_1.only on4 (by omega)
 replace F35_2 := F35_2.only on4 (by omega)
 replace F35_3 := F35_3.only on4 (by omega)
 replace F35_4 := F35_4.only on4 (by omega)
 replace F35_5 := F35_5.only on4 (by omega)
 replace O4 : Own w4 b3 [.int .i64 r35.C, .int .i64 r35.St, .int .i64 r35.Sa, .slice q35_1 m35_1 d35_1, .int .i64 r35.Se, .slice q35_2 m35_2 d35_2, .slice q35_3 m35_3 d35_3, .int .i64 r35.Me, .int .i64 r35.Al] 26 := O4
 refine va_ rfl rfl rfl ?_
 refine vn_ rfl rfl rfl ?_
 refine sr_ ?_
 refine oz_ (v := .agg #[.int .i64 r35.C, .int .i64 r35.St, .int .i64 r35.Sa, .slice q35_1 m35_1 d35_1, .int .i64 r35.Se, .slice q35_2 m35_2 d35_2, .slice q35_3 m35_3 d35_3, .int .i64 r35.Me, .int .i64 r35.Al]) (xloadN Tryz.isAgg26 Tryz.sizeOf26 rfl (O4.cells) rfl) rfl rfl ?_
 refine vm_ rfl rfl rfl ?_
 refine vm_ rfl rfl rfl ?_
 refine oc (xcall Tryz.call6 rfl) rfl rfl rfl (ReplayRecord_ok _ _ _ _ _ _ _ _ _ r35 _ _ _ ts35 _ _ _ ps35 _ (F35_1.sl) (F35_2.sl) (F35_3.sl) (F35_4.sl) (by assumption) (F35_5.sl) (by assumption)) ?_
 rintro _ w5 ⟨e5, q43_1, m43_1, d43_1, q43_2, m43_2, d43_2, q43_3, m43_3, d43_3, rfl, F43_1, F43_2, F43_3⟩
 have z5 := e5.size
 have E := E.trans e5
 replace F35_1 := F35_1.ext e5
 replace F35_2 := F35_2.ext e5
 replace F35_3 := F35_3.ext e5
 replace F35_4 := F35_4.ext e5
 replace F35_5 := F35_5.ext e5
 replace O4 := O4.ext e5
 have lF43_1 := F43_1.sl.len
 have lF43_2 := F43_2.sl.len
 have lF43_3 := F43_3.sl.len
 refine vm_ rfl rfl rfl ?_
 refine oz_ (xextract rfl rfl) rfl rfl ?_
 refine oz_ (xextract rfl rfl) rfl rfl ?_
 refine oalloc Tryz.zeroValue32 rfl rfl ?_
 intro b6 w6 e6 hb6 hz6 O6
 have E := E.trans e6
 replace F35_1 := F35_1.ext e6
 replace F35_2 := F35_2.ext e6
 replace F35_3 := F35_3.ext e6
 replace F35_4 := F35_4.ext e6
 replace F35_5 := F35_5.ext e6
 replace F43_1 := F43_1.ext e6
 replace F43_2 := F43_2.ext e6
 replace F43_3 := F43_3.ext e6
 replace O4 := O4.ext e6
 replace O6 : Own w6 b6 [.slice none 0 0, .slice none 0 0, .slice none 0 0] 32 := O6
 refine ostoreN (vs := _) Tryz.sizeOf32 rfl rfl O6 rfl (by simp) (by simp [Value.oneCell']) rfl ?_
 intro w7 on7 O7
 have hz7 := on7.size
 have E := on7.ext E (by omega)
 replace F35_1 := F35_1.only on7 (by omega)
 replace F35_2 := F35_2.only on7 (by omega)
 replace F35_3 := F35_3.only on7 (by omega)
 replace F35_4 := F35_4.only on7 (by omega)
 replace F35_5 := F35_5.only on7 (by omega)
 replace F43_1 := F43_1.only on7 (by omega)
 replace F43_2 := F43_2.only on7 (by omega)
 replace F43_3 := F43_3.only on7 (by omega)
 replace O4 := on7.own O4 (by omega)
 replace O7 : Own w7 b6 [.slice q43_1 m43_1 d43_1, .slice q43_2 m43_2 d43_2, .slice q43_3 m43_3 d43_3] 32 := O7
 refine vn_ rfl rfl rfl ?_
 refine sr_ ?_
 refine oz_ (v := .agg #[.int .i64 r35.C, .int .i64 r35.St, .int .i64 r35.Sa, .slice q35_1 m35_1 d35_1, .int .i64 r35.Se, .slice q35_2 m35_2 d35_2, .slice q35_3 m35_3 d35_3, .int .i64 r35.Me, .int .i64 r35.Al]) (xloadN Tryz.isAgg26 Tryz.sizeOf26 rfl (O4.cells) rfl) rfl rfl ?_
 refine vm_ rfl rfl rfl ?_
 refine vm_ rfl rfl rfl ?_
 refine oc (xcall Tryz.call7 rfl) rfl rfl rfl (sReplayRecord_ok _ _ _ _ _ _ _ _ _ r35 _ _ _ ts35 _ _ _ ps35 _ (F35_1.sl) (F35_2.sl) (F35_3.sl) (F35_4.sl) (by assumption) (F35_5.sl) (by assumption)) ?_
 rintro _ w8 ⟨e8, q50_1, m50_1, d50_1, q50_2, m50_2, d50_2, q50_3, m50_3, d50_3, rfl, F50_1, F50_2, F50_3⟩
 have z8 := e8.size
 have E := E.trans e8
 replace F35_1 := F35_1.ext e8
 replace F35_2 := F35_2.ext e8
 replace F35_3 := F35_3.ext e8
 replace F35_4 := F35_4.ext e8
 replace F35_5 := F35_5.ext e8
 replace F43_1 := F43_1.ext e8
 replace F43_2 := F43_2.ext e8
 replace F43_3 := F43_3.ext e8
 replace O4 := O4.ext e8
 replace O7 := O7.ext e8
 have lF50_1 := F50_1.sl.len
 have lF50_2 := F50_2.sl.len
 have lF50_3 := F50_3.sl.len
 refine vm_ rfl rfl rfl ?_
 refine oz_ (xextract rfl rfl) rfl rfl ?_
 refine oz_ (xextract rfl rfl) rfl rfl ?_
 refine oalloc Tryz.zeroValue32 rfl rfl ?_
 intro b9 w9 e9 hb9 hz9 O9
 have E := E.trans e9
 replace F35_1 := F35_1.ext e9
 replace F35_2 := F35_2.ext e9
 replace F35_3 := F35_3.ext e9
 replace F35_4 := F35_4.ext e9
 replace F35_5 := F35_5.ext e9
 replace F43_1 := F43_1.ext e9
 replace F43_2 := F43_2.ext e9
 replace F43_3 := F43_3.ext e9
 replace F50_1 := F50_1.ext e9
 replace F50_2 := F50_2.ext e9
 replace F50_3 := F50_3.ext e9
 replace O4 := O4.ext e9
 replace O7 := O7.ext e9
 replace O9 : Own w9 b9 [.slice none 0 0, .slice none 0 0, .slice none 0 0] 32 := O9
 refine ostoreN (vs := _) Tryz.sizeOf32 rfl rfl O9 rfl (by simp) (by simp [Value.oneCell']) rfl ?_
 intro w10 on10 O10
 have hz10 := on10.size
 have E := on10.ext E (by omega)
 replace F35_1 := F35_1.only on10 (by omega)
 replace F35_2 := F35_2.only on10 (by omega)
 replace F35_3 := F35_3.only on10 (by omega)
 replace F35_4 := F35_4.only on10 (by omega)
 replace F35_5 := F35_5.only on10 (by omega)
 replace F43_1 := F43_1.only on10 (by omega)
 replace F43_2 := F43_2.only on10 (by omega)
 replace F43_3 := F43_3.only on10 (by omega)
 replace F50_1 := F50_1.only on10 (by omega)
 replace F50_2 := F50_2.only on10 (by omega)
 replace F50_3 := F50_3.only on10 (by omega)
 replace O4 := on10.own O4 (by omega)
 replace O7 := on10.own O7 (by omega)
 replace O10 : Own w10 b9 [.slice q50_1 m50_1 d50_1, .slice q50_2 m50_2 d50_2, .slice q50_3 m50_3 d50_3] 32 := O10
 refine vn_ rfl rfl rfl ?_
 refine sr_ ?_
 refine vm_ rfl rfl rfl ?_
 refine oc (xcall Tryz.call8 rfl) rfl rfl rfl (DrawPollVerdict_ok _ _ _ _ _ (H.ext E) (by assumption)) ?_
 rintro _ w11 ⟨e11, xs55, q55, m55, d55, vs55, nd55, p55, n55, k55, rfl, ok55, hm55, F55, V55, hn55⟩
 have z11 := e11.size
 have E := E.trans e11
 replace F35_1 := F35_1.ext e11
 replace F35_2 := F35_2.ext e11
 replace F35_3 := F35_3.ext e11
 replace F35_4 := F35_4.ext e11
 replace F35_5 := F35_5.ext e11
 replace F43_1 := F43_1.ext e11
 replace F43_2 := F43_2.ext e11
 replace F43_3 := F43_3.ext e11
 replace F50_1 := F50_1.ext e11
 replace F50_2 := F50_2.ext e11
 replace F50_3 := F50_3.ext e11
 replace O4 := O4.ext e11
 replace O7 := O7.ext e11
 replace O10 := O10.ext e11
 have lF55 := F55.sl.len
 have lV55 := V55.len
 refine vm_ rfl rfl rfl ?_
 refine oz_ (xextract rfl rfl) rfl rfl ?_
 refine oz_ (xextract rfl rfl) rfl rfl ?_
 refine oalloc Tryz.zeroValue38 rfl rfl ?_
 intro b12 w12 e12 hb12 hz12 O12
 have E := E.trans e12
 replace F35_1 := F35_1.ext e12
 replace F35_2 := F35_2.ext e12
 replace F35_3 := F35_3.ext e12
 replace F35_4 := F35_4.ext e12
 replace F35_5 := F35_5.ext e12
 replace F43_1 := F43_1.ext e12
 replace F43_2 := F43_2.ext e12
 replace F43_3 := F43_3.ext e12
 replace F50_1 := F50_1.ext e12
 replace F50_2 := F50_2.ext e12
 replace F50_3 := F50_3.ext e12
 replace F55 := F55.ext e12
 replace V55 := V55.ext e12
 replace O4 := O4.ext e12
 replace O7 := O7.ext e12
 replace O10 := O10.ext e12
 replace O12 : Own w12 b12 [.int .i64 0, .slice none 0 0] 38 := O12
 refine va_ rfl rfl rfl ?_
 refine ostoreN (vs := _) Tryz.sizeOf38 rfl rfl O12 rfl (by simp) (by simp [Value.oneCell']) rfl ?_
 intro w13 on13 O13
 have hz13 := on13.size
 have E := on13.ext E (by omega)
 replace F35_1 := F35_1.only on13 (by omega)
 replace F35_2 := F35_2.only on13 (by omega)
 replace F35_3 := F35_3.only on13 (by omega)
 replace F35_4 := F35_4.only on13 (by omega)
 replace F35_5 := F35_5.only on13 (by omega)
 replace F43_1 := F43_1.only on13 (by omega)
 replace F43_2 := F43_2.only on13 (by omega)
 replace F43_3 := F43_3.only on13 (by omega)
 replace F50_1 := F50_1.only on13 (by omega)
 replace F50_2 := F50_2.only on13 (by omega)
 replace F50_3 := F50_3.only on13 (by omega)
 replace F55 := F55.only on13 (by omega)
 replace V55 := V55.only on13 (by omega)
 replace O4 := on13.own O4 (by omega)
 replace O7 := on13.own O7 (by omega)
 replace O10 := on13.own O10 (by omega)
 replace O13 : Own w13 b12 [.int .i64 nd55, .slice p55 n55 k55] 38 := O13
 refine ops_nil ?_
 refine sr_ ?_
 refine vm_ rfl rfl rfl ?_
 refine oz_ (v := .agg #[.int .i64 nd55, .slice p55 n55 k55]) (xloadN Tryz.isAgg38 Tryz.sizeOf38 rfl (O13.cells) rfl) rfl rfl ?_
 refine oc (xcall Tryz.call9 rfl) rfl rfl rfl (PollVerdict_ok _ _ _ xs55 nd55 vs55 _ _ _ _ (F55.sl) (by assumption) (V55.sl).sn) ?_
 rintro _ w14 ⟨rfl, e14⟩
 have z14 := e14.size
 have E := E.trans e14
 replace F35_1 := F35_1.ext e14
 replace F35_2 := F35_2.ext e14
 replace F35_3 := F35_3.ext e14
 replace F35_4 := F35_4.ext e14
 replace F35_5 := F35_5.ext e14
 replace F43_1 := F43_1.ext e14
 replace F43_2 := F43_2.ext e14
 replace F43_3 := F43_3.ext e14
 replace F50_1 := F50_1.ext e14
 replace F50_2 := F50_2.ext e14
 replace F50_3 := F50_3.ext e14
 replace F55 := F55.ext e14
 replace V55 := V55.ext e14
 replace O4 := O4.ext e14
 replace O7 := O7.ext e14
 replace O10 := O10.ext e14
 replace O13 := O13.ext e14
 refine vm_ rfl rfl rfl ?_
 refine oz_ (xextract rfl rfl) rfl rfl ?_
 refine oz_ (xextract rfl rfl) rfl rfl ?_
 refine va_ rfl rfl rfl ?_
 refine vn_ rfl rfl rfl ?_
 refine sr_ ?_
 refine vm_ rfl rfl rfl ?_
 refine oz_ (v := .agg #[.int .i64 nd55, .slice p55 n55 k55]) (xloadN Tryz.isAgg38 Tryz.sizeOf38 rfl (O13.cells) rfl) rfl rfl ?_
 refine oc (xcall Tryz.call10 rfl) rfl rfl rfl (sPollVerdict_ok _ _ _ xs55 nd55 vs55 _ _ _ _ (F55.sl) (by assumption) (V55.sl).sn) ?_
 rintro _ w15 ⟨rfl, e15⟩
 have z15 := e15.size
 have E := E.trans e15
 replace F35_1 := F35_1.ext e15
 replace F35_2 := F35_2.ext e15
 replace F35_3 := F35_3.ext e15
 replace F35_4 := F35_4.ext e15
 replace F35_5 := F35_5.ext e15
 replace F43_1 := F43_1.ext e15
 replace F43_2 := F43_2.ext e15
 replace F43_3 := F43_3.ext e15
 replace F50_1 := F50_1.ext e15
 replace F50_2 := F50_2.ext e15
 replace F50_3 := F50_3.ext e15
 replace F55 := F55.ext e15
 replace V55 := V55.ext e15
 replace O4 := O4.ext e15
 replace O7 := O7.ext e15
 replace O10 := O10.ext e15
 replace O13 := O13.ext e15
 refine vm_ rfl rfl rfl ?_
 refine oz_ (xextract rfl rfl) rfl rfl ?_
 refine oz_ (xextract rfl rfl) rfl rfl ?_
 refine va_ rfl rfl rfl ?_
 refine vn_ rfl rfl rfl ?_
 refine run_seq ?_
 refine sr_ ?_
 refine vm_ rfl rfl rfl ?_
 refine vm_ rfl rfl rfl ?_
 refine oz_ (xneq rfl rfl _ rfl) rfl rfl ?_
 refine ods (fun c72 => ?_) (fun c72 => ?_)
 ·
  exfalso; exact absurd rfl c72
 refine vm_ rfl rfl rfl ?_
 refine oz_ (v := .agg #[.slice q43_1 m43_1 d43_1, .slice q43_2 m43_2 d43_2, .slice q43_3 m43_3 d43_3]) (xloadN Tryz.isAgg32 Tryz.sizeOf32 rfl (O7.cells) rfl) rfl rfl ?_
 refine oz_ (v := .agg #[.slice q50_1 m50_1 d50_1, .slice q50_2 m50_2 d50_2, .slice q50_3 m50_3 d50_3]) (xloadN Tryz.isAgg32 Tryz.sizeOf32 rfl (O10.cells) rfl) rfl rfl ?_
 refine oc (xcall Tryz.call11 rfl) rfl rfl rfl (likeJury_ok _ _ _ _ _ _ _ _ _ _ _ _ _ _ _ _ _ _ (replayR r35 ts35 ps35).1 _ (F43_1.sl) (F43_2.sl) (F43_3.sl) (F50_1.sl) (F50_2.sl) (F50_3.sl)) ?_
 rintro _ w16 ⟨rfl, e16⟩
 have z16 := e16.size
 have E := E.trans e16
 replace F35_1 := F35_1.ext e16
 replace F35_2 := F35_2.ext e16
 replace F35_3 := F35_3.ext e16
 replace F35_4 := F35_4.ext e16
 replace F35_5 := F35_5.ext e16
 replace F43_1 := F43_1.ext e16
 replace F43_2 := F43_2.ext e16
 replace F43_3 := F43_3.ext e16
 replace F55 := F55.ext e16
 replace V55 := V55.ext e16
 replace O4 := O4.ext e16
 replace O7 := O7.ext e16
 replace O10 := O10.ext e16
 replace O13 := O13.ext e16
 refine obs (fun c76 => ?_) (fun c76 => ?_)
 rotate_left
 ·
  exfalso; cases c76
 refine oz_ (xnot rfl) rfl rfl ?_
 refine oz_ (xpick_f rfl rfl) rfl rfl ?_
 refine vm_ rfl rfl rfl ?_
 refine vm_ rfl rfl rfl ?_
 refine vm_ rfl rfl rfl ?_
 refine oz_ (xneq rfl rfl _ rfl) rfl rfl ?_
 refine ods (fun c82 => ?_) (fun c82 => ?_)
 ·
  exfalso; exact absurd rfl c82
 refine oz_ (xpick_f rfl rfl) rfl rfl ?_
 refine vm_ rfl rfl rfl ?_
 refine vm_ rfl rfl rfl ?_
 refine vm_ rfl rfl rfl ?_
 refine oz_ (xneq rfl rfl _ rfl) rfl rfl ?_
 refine ods (fun c87 => ?_) (fun c87 => ?_)
 ·
  exfalso; exact absurd rfl c87
 refine oz_ (xpick_f rfl rfl) rfl rfl ?_
 refine cf_ rfl ?_
 refine run_join (τ := [(3, .pointer (some ⟨b3, 0, none⟩)), (4, .slice q35_4 m35_4 d35_4), (5, .slice q35_5 m35_5 d35_5), (6, .pointer (some ⟨b6, 0, none⟩)), (7, .int .i64 ((replayR r35 ts35 ps35).2))]) (fun w_ => Ext w w_ ∧ (SlF i64c 1 w_ w1.heap.size w2.heap.size q35_1 m35_1 d35_1 r35.N) ∧ (SlF i64c 1 w_ w1.heap.size w2.heap.size q35_2 m35_2 d35_2 r35.Sk) ∧ (SlF i64c 1 w_ w1.heap.size w2.heap.size q35_3 m35_3 d35_3 r35.Mv) ∧ (SlF Tie.cells 4 w_ w1.heap.size w2.heap.size q35_4 m35_4 d35_4 ts35) ∧ (SlF strc 1 w_ w1.heap.size w2.heap.size q35_5 m35_5 d35_5 ps35) ∧ (SlF i64c 1 w_ w4.heap.size w5.heap.size q43_1 m43_1 d43_1 (replayR r35 ts35 ps35).1.S) ∧ (SlF i64c 1 w_ w4.heap.size w5.heap.size q43_2 m43_2 d43_2 (replayR r35 ts35 ps35).1.A) ∧ (SlF i64c 1 w_ w4.heap.size w5.heap.size q43_3 m43_3 d43_3 (replayR r35 ts35 ps35).1.L) ∧ (w16.heap.size ≤ w_.heap.size) ∧ (Own w_ b12 [.int .i64 nd55, .slice p55 n55 k55] 38) ∧ (Own w_ b3 [.int .i64 r35.C, .int .i64 r35.St, .int .i64 r35.Sa, .slice q35_1 m35_1 d35_1, .int .i64 r35.Se, .slice q35_2 m35_2 d35_2, .slice q35_3 m35_3 d35_3, .int .i64 r35.Me, .int .i64 r35.Al] 26) ∧ (Own w_ b6 [.slice q43_1 m43_1 d43_1, .slice q43_2 m43_2 d43_2, .slice q43_3 m43_3 d43_3] 32) ∧ (Own w_ b9 [.slice q50_1 m50_1 d50_1, .slice q50_2 m50_2 d50_2, .slice q50_3 m50_3 d50_3] 32)) ?_ ?_
 ·
  intro hJ11
  refine run_seq ?_
  refine sr_ ?_
  refine vm_ rfl rfl rfl ?_
  refine oz_ (xeql rfl rfl _ rfl) rfl rfl ?_
  refine ods (fun c90 => ?_) (fun c90 => ?_)
  rotate_left
  ·
   refine cf_ rfl ?_
   refine run_sub ?_ (hJ11 _ ⟨E, F35_1, F35_2, F35_3, F35_4, F35_5, F43_1, F43_2, F43_3, by omega, O13, O4, O7, O10⟩)
   exact ⟨rfl, rfl, rfl, rfl, rfl, trivial⟩
  obtain ⟨tp1, tp2, tp3, tp4, tp5⟩ := top_poll (by omega : (pollVerdict xs55 nd55 vs55).2 = 0)
  refine ct_ rfl ?_
  refine sr_ ?_
  refine vm_ rfl rfl rfl ?_
  refine oz_ (v := .agg #[.int .i64 nd55, .slice p55 n55 k55]) (xloadN Tryz.isAgg38 Tryz.sizeOf38 rfl (O13.cells) rfl) rfl rfl ?_
  refine oc (xcall Tryz.call12 rfl) rfl rfl rfl (AnswersOf_ok _ _ _ xs55 nd55 vs55 _ _ _ _ (F55.sl) (by assumption) (V55.sl).sn) ?_
  rintro _ w17 ⟨e17, q94_0, m94_0, d94_0, rfl, G94_0⟩
  have z17 := e17.size
  have E := E.trans e17
  replace F35_1 := F35_1.ext e17
  replace F35_2 := F35_2.ext e17
  replace F35_3 := F35_3.ext e17
  replace F35_4 := F35_4.ext e17
  replace F35_5 := F35_5.ext e17
  replace F43_1 := F43_1.ext e17
  replace F43_2 := F43_2.ext e17
  replace F43_3 := F43_3.ext e17
  replace F55 := F55.ext e17
  replace O4 := O4.ext e17
  replace O7 := O7.ext e17
  replace O10 := O10.ext e17
  replace O13 := O13.ext e17
  have lG94_0 := G94_0.len
  refine vm_ rfl rfl rfl ?_
  refine oz_ (xextract rfl rfl) rfl rfl ?_
  refine oz_ (xextract rfl rfl) rfl rfl ?_
  refine va_ rfl rfl rfl ?_
  refine vn_ rfl rfl rfl ?_
  refine sr_ ?_
  refine vm_ rfl rfl rfl ?_
  refine vm_ rfl rfl rfl ?_
  refine oc (xcall Tryz.call13 rfl) rfl rfl rfl (VerdictOf_ok _ _ _ xs55 _ _ _ (answersOf xs55 nd55 vs55).1 _ (F55.sl) (by assumption) (G94_0.sl)) ?_
  rintro _ w18 ⟨rfl, e18⟩
  have z18 := e18.size
  have E := E.trans e18
  replace F35_1 := F35_1.ext e18
  replace F35_2 := F35_2.ext e18
  replace F35_3 := F35_3.ext e18
  replace F35_4 := F35_4.ext e18
  replace F35_5 := F35_5.ext e18
  replace F43_1 := F43_1.ext e18
  replace F43_2 := F43_2.ext e18
  replace F43_3 := F43_3.ext e18
  replace F55 := F55.ext e18
  replace O4 := O4.ext e18
  replace O7 := O7.ext e18
  replace O10 := O10.ext e18
  replace O13 := O13.ext e18
  refine vm_ rfl rfl rfl ?_
  refine oz_ (xextract rfl rfl) rfl rfl ?_
  refine oz_ (xextract rfl rfl) rfl rfl ?_
  refine va_ rfl rfl rfl ?_
  refine vn_ rfl rfl rfl ?_
  refine sr_ ?_
  refine vm_ rfl rfl rfl ?_
  refine oc (xcall Tryz.call14 rfl) rfl rfl rfl (VerdictsOf_ok _ _ _ xs55 _ (F55.sl) (by assumption)) ?_
  rintro _ w19 ⟨e19, q105_0, m105_0, d105_0, rfl, G105_0⟩
  have z19 := e19.size
  have E := E.trans e19
  replace F35_1 := F35_1.ext e19
  replace F35_2 := F35_2.ext e19
  replace F35_3 := F35_3.ext e19
  replace F35_4 := F35_4.ext e19
  replace F35_5 := F35_5.ext e19
  replace F43_1 := F43_1.ext e19
  replace F43_2 := F43_2.ext e19
  replace F43_3 := F43_3.ext e19
  replace O4 := O4.ext e19
  replace O7 := O7.ext e19
  replace O10 := O10.ext e19
  replace O13 := O13.ext e19
  have lG105_0 := G105_0.len
  refine vm_ rfl rfl rfl ?_
  refine oz_ (xextract rfl rfl) rfl rfl ?_
  refine oz_ (xextract rfl rfl) rfl rfl ?_
  refine va_ rfl rfl rfl ?_
  refine vn_ rfl rfl rfl ?_
  refine sr_ ?_
  refine vm_ rfl rfl rfl ?_
  refine oz_ (xneq rfl rfl _ rfl) rfl rfl ?_
  refine ods (fun c109 => ?_) (fun c109 => ?_)
  ·
   exfalso; exact c109 tp2
  refine vm_ rfl rfl rfl ?_
  refine vm_ rfl rfl rfl ?_
  refine oz_ (xneq rfl rfl _ rfl) rfl rfl ?_
  refine ods (fun c112 => ?_) (fun c112 => ?_)
  ·
   exfalso; exact c112 (by rw [tp3])
  refine oz_ (xpick_f rfl rfl) rfl rfl ?_
  refine vm_ rfl rfl rfl ?_
  refine vm_ rfl rfl rfl ?_
  refine vm_ rfl rfl rfl ?_
  refine oz_ (xneq rfl rfl _ rfl) rfl rfl ?_
  refine ods (fun c117 => ?_) (fun c117 => ?_)
  ·
   exfalso; exact c117 (by rw [tp3])
  refine oz_ (xpick_f rfl rfl) rfl rfl ?_
  refine vm_ rfl rfl rfl ?_
  refine vm_ rfl rfl rfl ?_
  refine oz_ (xneq rfl rfl _ rfl) rfl rfl ?_
  refine ods (fun c121 => ?_) (fun c121 => ?_)
  ·
   exfalso; exact c121 tp4
  refine oz_ (xpick_f rfl rfl) rfl rfl ?_
  refine vm_ rfl rfl rfl ?_
  refine vm_ rfl rfl rfl ?_
  refine vm_ rfl rfl rfl ?_
  refine oc (xcall Tryz.call15 rfl) rfl rfl rfl (hasIntE_ok _ _ _ _ ((pollVerdict xs55 nd55 vs55).1) _ (G105_0.sl)) ?_
  rintro _ w20 ⟨rfl, e20⟩
  have z20 := e20.size
  have E := E.trans e20
  replace F35_1 := F35_1.ext e20
  replace F35_2 := F35_2.ext e20
  replace F35_3 := F35_3.ext e20
  replace F35_4 := F35_4.ext e20
  replace F35_5 := F35_5.ext e20
  replace F43_1 := F43_1.ext e20
  replace F43_2 := F43_2.ext e20
  replace F43_3 := F43_3.ext e20
  replace O4 := O4.ext e20
  replace O7 := O7.ext e20
  replace O10 := O10.ext e20
  replace O13 := O13.ext e20
  refine obs (fun c126 => ?_) (fun c126 => ?_)
  rotate_left
  ·
   exfalso; rw [tp5] at c126; cases c126
  refine oz_ (xnot rfl) rfl rfl ?_
  refine oz_ (xpick_f rfl rfl) rfl rfl ?_
  refine cf_ rfl ?_
  refine run_sub ?_ (hJ11 _ ⟨E, F35_1, F35_2, F35_3, F35_4, F35_5, F43_1, F43_2, F43_3, by omega, O13, O4, O7, O10⟩)
  exact ⟨rfl, rfl, rfl, rfl, rfl, trivial⟩
 rintro w17 ⟨E, F35_1, F35_2, F35_3, F35_4, F35_5, F43_1, F43_2, F43_3, hjz, O_b12, O_b3, O_b6, O_b9⟩
 have z17 := E.size
 refine run_seq ?_
 refine sr_ ?_
 refine vm_ rfl rfl rfl ?_
 refine oz_ (xneq rfl rfl _ rfl) rfl rfl ?_
 refine ods (fun c130 => ?_) (fun c130 => ?_)
 ·
  refine ct_ rfl ?_
  refine sr_ ?_
  refine vn_ rfl rfl rfl ?_
  refine run_ret Tryz.func3 (res1 rfl rfl) ?_
  exact ⟨_, rfl, rfl, E⟩
 have rz0 : (replayR r35 ts35 ps35).2 = 0 := by omega
 obtain ⟨rz1, rz2, rz3, rz4, rz5, rz6, rz7⟩ := replay_zero rz0
 have jl := jur_len rz4
 have ts1 := true_same rz1 rz3 rz0
 have ts2 := true_other (j := (⟨(replayR r35 ts35 ps35).1.S, (replayR r35 ts35 ps35).1.A, ([] ++ (replayR r35 ts35 ps35).1.L) ++ [1000000]⟩ : Jur)) rz1 rz3 (by simp only [List.length_append, List.length_nil, List.length_cons]; omega)
 have hh1 := isHon_t rz2
 refine cf_ rfl ?_
 refine sr_ ?_
 refine oz_ (v := .agg #[.int .i64 r35.C, .int .i64 r35.St, .int .i64 r35.Sa, .slice q35_1 m35_1 d35_1, .int .i64 r35.Se, .slice q35_2 m35_2 d35_2, .slice q35_3 m35_3 d35_3, .int .i64 r35.Me, .int .i64 r35.Al]) (xloadN Tryz.isAgg26 Tryz.sizeOf26 rfl (O_b3.cells) rfl) rfl rfl ?_
 refine oc (xcall Tryz.call16 rfl) rfl rfl rfl (IsHonest_ok _ _ _ _ _ _ _ _ _ r35 _ (F35_1.sl) (F35_2.sl) (F35_3.sl)) ?_
 rintro _ w18 ⟨rfl, e18⟩
 have z18 := e18.size
 have E := E.trans e18
 replace F35_1 := F35_1.ext e18
 replace F35_2 := F35_2.ext e18
 replace F35_3 := F35_3.ext e18
 replace F35_4 := F35_4.ext e18
 replace F35_5 := F35_5.ext e18
 replace F43_1 := F43_1.ext e18
 replace F43_2 := F43_2.ext e18
 replace F43_3 := F43_3.ext e18
 replace O_b12 := O_b12.ext e18
 replace O_b3 := O_b3.ext e18
 replace O_b6 := O_b6.ext e18
 replace O_b9 := O_b9.ext e18
 refine vm_ rfl rfl rfl ?_
 refine oz_ (xextract rfl rfl) rfl rfl ?_
 refine oz_ (xextract rfl rfl) rfl rfl ?_
 refine va_ rfl rfl rfl ?_
 refine vn_ rfl rfl rfl ?_
 refine sr_ ?_
 refine oz_ (v := .agg #[.int .i64 r35.C, .int .i64 r35.St, .int .i64 r35.Sa, .slice q35_1 m35_1 d35_1, .int .i64 r35.Se, .slice q35_2 m35_2 d35_2, .slice q35_3 m35_3 d35_3, .int .i64 r35.Me, .int .i64 r35.Al]) (xloadN Tryz.isAgg26 Tryz.sizeOf26 rfl (O_b3.cells) rfl) rfl rfl ?_
 refine vm_ rfl rfl rfl ?_
 refine vm_ rfl rfl rfl ?_
 refine oz_ (v := .agg #[.slice q43_1 m43_1 d43_1, .slice q43_2 m43_2 d43_2, .slice q43_3 m43_3 d43_3]) (xloadN Tryz.isAgg32 Tryz.sizeOf32 rfl (O_b6.cells) rfl) rfl rfl ?_
 refine oc (xcall Tryz.call17 rfl) rfl rfl rfl (IsTrueJury_ok _ _ _ _ _ _ _ _ _ r35 _ _ _ ts35 _ _ _ ps35 _ _ _ _ _ _ _ _ _ (replayR r35 ts35 ps35).1 _ (F35_1.sl) (F35_2.sl) (F35_3.sl) (F35_4.sl) (by assumption) (F35_5.sl) (by assumption) (F43_1.sl) (F43_2.sl) (F43_3.sl)) ?_
 rintro _ w19 ⟨rfl, e19⟩
 have z19 := e19.size
 have E := E.trans e19
 replace F35_1 := F35_1.ext e19
 replace F35_2 := F35_2.ext e19
 replace F35_3 := F35_3.ext e19
 replace F35_4 := F35_4.ext e19
 replace F35_5 := F35_5.ext e19
 replace F43_1 := F43_1.ext e19
 replace F43_2 := F43_2.ext e19
 replace F43_3 := F43_3.ext e19
 replace O_b12 := O_b12.ext e19
 replace O_b3 := O_b3.ext e19
 replace O_b6 := O_b6.ext e19
 replace O_b9 := O_b9.ext e19
 refine vm_ rfl rfl rfl ?_
 refine oz_ (xextract rfl rfl) rfl rfl ?_
 refine oz_ (xextract rfl rfl) rfl rfl ?_
 refine va_ rfl rfl rfl ?_
 refine vn_ rfl rfl rfl ?_
 refine run_seq ?_
 have RE := E
 have RO_b12 := O_b12
 have RO_b3 := O_b3
 have RO_b6 := O_b6
 have RO_b9 := O_b9
 refine run_held (ι := Option Addr × Nat × Nat × Nat) (fun x_ w' => match x_ with | (qo, mo, do_, bx) => Ext w19 w' ∧ SlF i64c 1 w' w19.heap.size w'.heap.size qo mo do_ (([] ++ (replayR r35 ts35 ps35).1.L) ++ [1000000]) ∧ Own w' bx [.slice q43_1 m43_1 d43_1, .slice q43_2 m43_2 d43_2, .slice qo mo do_] 32 ∧ w19.heap.size ≤ bx) (fun x_ => match x_ with | (qo, mo, do_, bx) => [(3, .pointer (some ⟨b3, 0, none⟩)), (4, .slice q35_4 m35_4 d35_4), (5, .slice q35_5 m35_5 d35_5), (6, .pointer (some ⟨b6, 0, none⟩)), (22, .bool (isHonR r35).1), (23, .int .i64 (isHonR r35).2), (24, .bool (trueR r35 ts35 ps35 (replayR r35 ts35 ps35).1).1), (25, .int .i64 (trueR r35 ts35 ps35 (replayR r35 ts35 ps35).1).2), (26, .pointer (some ⟨bx, 0, none⟩))]) (by kernel_rfl) ?_ ?_
 ·
  intro w0_ F
  have z0_ := F.size
  have E := E.trans F
  refine h_take 0 rfl (by kernel_rfl) (by kernel_rfl) (by kernel_rfl) (fun w' x_ => xfieldAddr fo32f0 rfl) rfl rfl rfl F ?_
  refine h_take 1 (v := .slice q43_1 m43_1 d43_1) rfl (by kernel_rfl) (by kernel_rfl) (by kernel_rfl) (fun w' x_ => xload1 Tryz.isAgg24 rfl ((RO_b6.cells).ext x_) rfl) rfl rfl rfl F ?_
  refine h_take 2 rfl (by kernel_rfl) (by kernel_rfl) (by kernel_rfl) (fun w' x_ => xfieldAddr fo32f1 rfl) rfl rfl rfl F ?_
  refine h_take 3 (v := .slice q43_2 m43_2 d43_2) rfl (by kernel_rfl) (by kernel_rfl) (by kernel_rfl) (fun w' x_ => xload1 Tryz.isAgg24 rfl ((RO_b6.cells).ext x_) rfl) rfl rfl rfl F ?_
  refine h_take 5 rfl (by kernel_rfl) (by kernel_rfl) (by kernel_rfl) (fun w' x_ => xfieldAddr fo32f2 rfl) rfl rfl rfl F ?_
  refine h_take 6 (v := .slice q43_3 m43_3 d43_3) rfl (by kernel_rfl) (by kernel_rfl) (by kernel_rfl) (fun w' x_ => xload1 Tryz.isAgg24 rfl ((RO_b6.cells).ext x_) rfl) rfl rfl rfl F ?_
  refine h_ready (rs := [4, 8, 11]) (by kernel_rfl) (by decide) ⟨?_, ?_, ?_, trivial⟩
  rotate_left
  ·
   refine hs_build (len := 1) (vs := [.int .i64 1000000]) (cs := [.int .i64 1000000]) (sz := 1) Tryz.underlying24 inf2 rfl rfl (by decide) (by rfl) (by rfl) (by simp [Value.cells]) rfl F rfl rfl rfl ?_
   intro b20 w20 e20 hb20 hz20 O20
   have E := E.trans e20
   have F := F.trans e20
   refine h_ready (rs := [4, 11]) (by kernel_rfl) (by decide) ⟨?_, ?_, trivial⟩
   rotate_left
   ·
    refine hs_alloc Tryz.zeroValue32 F rfl rfl rfl ?_
    intro b21 w21 e21 hb21 hz21 O21
    have E := E.trans e21
    replace O20 := O20.ext e21
    have F := F.trans e21
    replace O21 : Own w21 b21 [.slice none 0 0, .slice none 0 0, .slice none 0 0] 32 := O21
    refine h_ready (rs := [4]) (by kernel_rfl) (by decide) ⟨?_, trivial⟩
    refine hs_build (len := 0) (vs := []) (cs := []) (sz := 1) Tryz.underlying24 inf2 rfl rfl (by decide) (by rfl) (by rfl) (by simp [Value.cells]) rfl F rfl rfl rfl ?_
    intro b22 w22 e22 hb22 hz22 O22
    have E := E.trans e22
    replace O20 := O20.ext e22
    replace O21 := O21.ext e22
    have G22 : Ow i64c 1 2 w22 b22 (b22 + 1) (some ⟨b22, 0, none⟩) 0 0 ([] : List Int) := Own.ow (by simpa [i64c] using O22) rfl (by omega) (Nat.le_refl _) (by omega) (by intro x hx; rfl)
    have F := F.trans e22
    refine h_ready (rs := [7]) (by kernel_rfl) (by decide) ⟨?_, trivial⟩
    refine hs_appT (bytes := 8) (nm := m43_3) G22 (by rfl) (by rfl) elem2 ((F43_3.sl).ext F) (F43_3.sl).nil (by intro y hy; rfl) (by intro y hy u hu; simp only [i64c, List.mem_singleton] at hu; subst hu; rfl) (by omega) (by omega) (by omega) (by omega) F (by omega) rfl rfl rfl ?_
    intro p23 c23_ w23 m23 k23 G23
    have hz23 := m23.size
    have E := m23.toExt E (by omega)
    have F := m23.toExt F (by omega)
    try replace O20 := m23.own O20 (by omega)
    replace O21 := k23 _ _ _ (by decide) O21
    refine h_ready (rs := [9]) (by kernel_rfl) (by decide) ⟨?_, trivial⟩
    refine hs_appT (bytes := 8) (nm := (m43_3 + 1)) G23 (by rfl) (by rfl) elem2 (Own.sl1 (y := 1000000) O20) (by intro h; cases h) (by intro y hy; rfl) (by intro y hy u hu; rw [List.mem_singleton] at hy; subst hy; revert u; simp [Value.oneCell', i64c]) (by omega) (by omega) (by omega) (by omega) F (by omega) rfl rfl rfl ?_
    intro p24 c24_ w24 m24 k24 G24
    have hz24 := m24.size
    have E := m24.toExt E (by omega)
    have F := m24.toExt F (by omega)
    replace O21 := k24 _ _ _ (by decide) O21
    refine h_take 10 rfl (by kernel_rfl) (by kernel_rfl) (by kernel_rfl) (fun w' x_ => xbuild (vs := [.slice q43_1 m43_1 d43_1, .slice q43_2 m43_2 d43_2, .slice p24 (m43_3 + 1) c24_]) (cells := #[.slice q43_1 m43_1 d43_1, .slice q43_2 m43_2 d43_2, .slice p24 (m43_3 + 1) c24_]) rfl (by kernel_rfl)) rfl rfl rfl F ?_
    refine h_ready (rs := [12]) (by kernel_rfl) (by decide) ⟨?_, trivial⟩
    refine hs_storeN (vs := [.slice q43_1 m43_1 d43_1, .slice q43_2 m43_2 d43_2, .slice p24 (m43_3 + 1) c24_]) Tryz.sizeOf32 rfl rfl O21 rfl (by simp) (by simp [Value.oneCell']) F (by omega) rfl rfl ?_
    intro w25 on25 O25
    have hz25 := on25.size
    have E := on25.ext E (by omega)
    replace G24 := G24.onlyT O21 (by decide) on25
    have F := on25.ext F (by omega)
    replace O25 : Own w25 b21 [.slice q43_1 m43_1 d43_1, .slice q43_2 m43_2 d43_2, .slice p24 (m43_3 + 1) c24_] 32 := O25
    refine h_done (by kernel_rfl) ?_
    intro a_ ha_
    exact ⟨(p24, (m43_3 + 1), c24_, b21), ⟨F, ⟨G24.slF (by omega) (by omega), O25, by omega⟩⟩, ha_.sub ⟨rfl, rfl, rfl, rfl, rfl, rfl, rfl, rfl, rfl, trivial⟩⟩
   refine hs_build (len := 0) (vs := []) (cs := []) (sz := 1) Tryz.underlying24 inf2 rfl rfl (by decide) (by rfl) (by rfl) (by simp [Value.cells]) rfl F rfl rfl rfl ?_
   intro b21 w21 e21 hb21 hz21 O21
   have E := E.trans e21
   replace O20 := O20.ext e21
   have G21 : Ow i64c 1 2 w21 b21 (b21 + 1) (some ⟨b21, 0, none⟩) 0 0 ([] : List Int) := Own.ow (by simpa [i64c] using O21) rfl (by omega) (Nat.le_refl _) (by omega) (by intro x hx; rfl)
   have F := F.trans e21
   refine h_ready (rs := [7, 11]) (by kernel_rfl) (by decide) ⟨?_, ?_, trivial⟩
   rotate_left
   ·
    refine hs_alloc Tryz.zeroValue32 F rfl rfl rfl ?_
    intro b22 w22 e22 hb22 hz22 O22
    have E := E.trans e22
    replace G21 := G21.ext e22
    replace O20 := O20.ext e22
    have F := F.trans e22
    replace O22 : Own w22 b22 [.slice none 0 0, .slice none 0 0, .slice none 0 0] 32 := O22
    refine h_ready (rs := [7]) (by kernel_rfl) (by decide) ⟨?_, trivial⟩
    refine hs_appT (bytes := 8) (nm := m43_3) G21 (by rfl) (by rfl) elem2 ((F43_3.sl).ext F) (F43_3.sl).nil (by intro y hy; rfl) (by intro y hy u hu; simp only [i64c, List.mem_singleton] at hu; subst hu; rfl) (by omega) (by omega) (by omega) (by omega) F (by omega) rfl rfl rfl ?_
    intro p23 c23_ w23 m23 k23 G23
    have hz23 := m23.size
    have E := m23.toExt E (by omega)
    have F := m23.toExt F (by omega)
    try replace O20 := m23.own O20 (by omega)
    replace O22 := k23 _ _ _ (by decide) O22
    refine h_ready (rs := [9]) (by kernel_rfl) (by decide) ⟨?_, trivial⟩
    refine hs_appT (bytes := 8) (nm := (m43_3 + 1)) G23 (by rfl) (by rfl) elem2 (Own.sl1 (y := 1000000) O20) (by intro h; cases h) (by intro y hy; rfl) (by intro y hy u hu; rw [List.mem_singleton] at hy; subst hy; revert u; simp [Value.oneCell', i64c]) (by omega) (by omega) (by omega) (by omega) F (by omega) rfl rfl rfl ?_
    intro p24 c24_ w24 m24 k24 G24
    have hz24 := m24.size
    have E := m24.toExt E (by omega)
    have F := m24.toExt F (by omega)
    replace O22 := k24 _ _ _ (by decide) O22
    refine h_take 10 rfl (by kernel_rfl) (by kernel_rfl) (by kernel_rfl) (fun w' x_ => xbuild (vs := [.slice q43_1 m43_1 d43_1, .slice q43_2 m43_2 d43_2, .slice p24 (m43_3 + 1) c24_]) (cells := #[.slice q43_1 m43_1 d43_1, .slice q43_2 m43_2 d43_2, .slice p24 (m43_3 + 1) c24_]) rfl (by kernel_rfl)) rfl rfl rfl F ?_
    refine h_ready (rs := [12]) (by kernel_rfl) (by decide) ⟨?_, trivial⟩
    refine hs_storeN (vs := [.slice q43_1 m43_1 d43_1, .slice q43_2 m43_2 d43_2, .slice p24 (m43_3 + 1) c24_]) Tryz.sizeOf32 rfl rfl O22 rfl (by simp) (by simp [Value.oneCell']) F (by omega) rfl rfl ?_
    intro w25 on25 O25
    have hz25 := on25.size
    have E := on25.ext E (by omega)
    replace G24 := G24.onlyT O22 (by decide) on25
    have F := on25.ext F (by omega)
    replace O25 : Own w25 b22 [.slice q43_1 m43_1 d43_1, .slice q43_2 m43_2 d43_2, .slice p24 (m43_3 + 1) c24_] 32 := O25
    refine h_done (by kernel_rfl) ?_
    intro a_ ha_
    exact ⟨(p24, (m43_3 + 1), c24_, b22), ⟨F, ⟨G24.slF (by omega) (by omega), O25, by omega⟩⟩, ha_.sub ⟨rfl, rfl, rfl, rfl, rfl, rfl, rfl, rfl, rfl, trivial⟩⟩
   refine hs_appT (bytes := 8) (nm := m43_3) G21 (by rfl) (by rfl) elem2 ((F43_3.sl).ext F) (F43_3.sl).nil (by intro y hy; rfl) (by intro y hy u hu; simp only [i64c, List.mem_singleton] at hu; subst hu; rfl) (by omega) (by omega) (by omega) (by omega) F (by omega) rfl rfl rfl ?_
   intro p22 c22_ w22 m22 k22 G22
   have hz22 := m22.size
   have E := m22.toExt E (by omega)
   have F := m22.toExt F (by omega)
   try replace O20 := m22.own O20 (by omega)
   refine h_ready (rs := [9, 11]) (by kernel_rfl) (by decide) ⟨?_, ?_, trivial⟩
   ·
    refine hs_appT (bytes := 8) (nm := (m43_3 + 1)) G22 (by rfl) (by rfl) elem2 (Own.sl1 (y := 1000000) O20) (by intro h; cases h) (by intro y hy; rfl) (by intro y hy u hu; rw [List.mem_singleton] at hy; subst hy; revert u; simp [Value.oneCell', i64c]) (by omega) (by omega) (by omega) (by omega) F (by omega) rfl rfl rfl ?_
    intro p23 c23_ w23 m23 k23 G23
    have hz23 := m23.size
    have E := m23.toExt E (by omega)
    have F := m23.toExt F (by omega)
    refine h_take 10 rfl (by kernel_rfl) (by kernel_rfl) (by kernel_rfl) (fun w' x_ => xbuild (vs := [.slice q43_1 m43_1 d43_1, .slice q43_2 m43_2 d43_2, .slice p23 (m43_3 + 1) c23_]) (cells := #[.slice q43_1 m43_1 d43_1, .slice q43_2 m43_2 d43_2, .slice p23 (m43_3 + 1) c23_]) rfl (by kernel_rfl)) rfl rfl rfl F ?_
    refine h_ready (rs := [11]) (by kernel_rfl) (by decide) ⟨?_, trivial⟩
    refine hs_alloc Tryz.zeroValue32 F rfl rfl rfl ?_
    intro b24 w24 e24 hb24 hz24 O24
    have E := E.trans e24
    replace G23 := G23.ext e24
    have F := F.trans e24
    replace O24 : Own w24 b24 [.slice none 0 0, .slice none 0 0, .slice none 0 0] 32 := O24
    refine h_ready (rs := [12]) (by kernel_rfl) (by decide) ⟨?_, trivial⟩
    refine hs_storeN (vs := [.slice q43_1 m43_1 d43_1, .slice q43_2 m43_2 d43_2, .slice p23 (m43_3 + 1) c23_]) Tryz.sizeOf32 rfl rfl O24 rfl (by simp) (by simp [Value.oneCell']) F (by omega) rfl rfl ?_
    intro w25 on25 O25
    have hz25 := on25.size
    have E := on25.ext E (by omega)
    replace G23 := G23.onlyT O24 (by decide) on25
    have F := on25.ext F (by omega)
    replace O25 : Own w25 b24 [.slice q43_1 m43_1 d43_1, .slice q43_2 m43_2 d43_2, .slice p23 (m43_3 + 1) c23_] 32 := O25
    refine h_done (by kernel_rfl) ?_
    intro a_ ha_
    exact ⟨(p23, (m43_3 + 1), c23_, b24), ⟨F, ⟨G23.slF (by omega) (by omega), O25, by omega⟩⟩, ha_.sub ⟨rfl, rfl, rfl, rfl, rfl, rfl, rfl, rfl, rfl, trivial⟩⟩
   refine hs_alloc Tryz.zeroValue32 F rfl rfl rfl ?_
   intro b23 w23 e23 hb23 hz23 O23
   have E := E.trans e23
   replace G22 := G22.ext e23
   replace O20 := O20.ext e23
   have F := F.trans e23
   replace O23 : Own w23 b23 [.slice none 0 0, .slice none 0 0, .slice none 0 0] 32 := O23
   refine h_ready (rs := [9]) (by kernel_rfl) (by decide) ⟨?_, trivial⟩
   refine hs_appT (bytes := 8) (nm := (m43_3 + 1)) G22 (by rfl) (by rfl) elem2 (Own.sl1 (y := 1000000) O20) (by intro h; cases h) (by intro y hy; rfl) (by intro y hy u hu; rw [List.mem_singleton] at hy; subst hy; revert u; simp [Value.oneCell', i64c]) (by omega) (by omega) (by omega) (by omega) F (by omega) rfl rfl rfl ?_
   intro p24 c24_ w24 m24 k24 G24
   have hz24 := m24.size
   have E := m24.toExt E (by omega)
   have F := m24.toExt F (by omega)
   replace O23 := k24 _ _ _ (by decide) O23
   refine h_take 10 rfl (by kernel_rfl) (by kernel_rfl) (by kernel_rfl) (fun w' x_ => xbuild (vs := [.slice q43_1 m43_1 d43_1, .slice q43_2 m43_2 d43_2, .slice p24 (m43_3 + 1) c24_]) (cells := #[.slice q43_1 m43_1 d43_1, .slice q43_2 m43_2 d43_2, .slice p24 (m43_3 + 1) c24_]) rfl (by kernel_rfl)) rfl rfl rfl F ?_
   refine h_ready (rs := [12]) (by kernel_rfl) (by decide) ⟨?_, trivial⟩
   refine hs_storeN (vs := [.slice q43_1 m43_1 d43_1, .slice q43_2 m43_2 d43_2, .slice p24 (m43_3 + 1) c24_]) Tryz.sizeOf32 rfl rfl O23 rfl (by simp) (by simp [Value.oneCell']) F (by omega) rfl rfl ?_
   intro w25 on25 O25
   have hz25 := on25.size
   have E := on25.ext E (by omega)
   replace G24 := G24.onlyT O23 (by decide) on25
   have F := on25.ext F (by omega)
   replace O25 : Own w25 b23 [.slice q43_1 m43_1 d43_1, .slice q43_2 m43_2 d43_2, .slice p24 (m43_3 + 1) c24_] 32 := O25
   refine h_done (by kernel_rfl) ?_
   intro a_ ha_
   exact ⟨(p24, (m43_3 + 1), c24_, b23), ⟨F, ⟨G24.slF (by omega) (by omega), O25, by omega⟩⟩, ha_.sub ⟨rfl, rfl, rfl, rfl, rfl, rfl, rfl, rfl, rfl, trivial⟩⟩
  ·
   refine hs_alloc Tryz.zeroValue32 F rfl rfl rfl ?_
   intro b20 w20 e20 hb20 hz20 O20
   have E := E.trans e20
   have F := F.trans e20
   replace O20 : Own w20 b20 [.slice none 0 0, .slice none 0 0, .slice none 0 0] 32 := O20
   refine h_ready (rs := [4, 8]) (by kernel_rfl) (by decide) ⟨?_, ?_, trivial⟩
   rotate_left
   ·
    refine hs_build (len := 1) (vs := [.int .i64 1000000]) (cs := [.int .i64 1000000]) (sz := 1) Tryz.underlying24 inf2 rfl rfl (by decide) (by rfl) (by rfl) (by simp [Value.cells]) rfl F rfl rfl rfl ?_
    intro b21 w21 e21 hb21 hz21 O21
    have E := E.trans e21
    replace O20 := O20.ext e21
    have F := F.trans e21
    refine h_ready (rs := [4]) (by kernel_rfl) (by decide) ⟨?_, trivial⟩
    refine hs_build (len := 0) (vs := []) (cs := []) (sz := 1) Tryz.underlying24 inf2 rfl rfl (by decide) (by rfl) (by rfl) (by simp [Value.cells]) rfl F rfl rfl rfl ?_
    intro b22 w22 e22 hb22 hz22 O22
    have E := E.trans e22
    replace O20 := O20.ext e22
    replace O21 := O21.ext e22
    have G22 : Ow i64c 1 2 w22 b22 (b22 + 1) (some ⟨b22, 0, none⟩) 0 0 ([] : List Int) := Own.ow (by simpa [i64c] using O22) rfl (by omega) (Nat.le_refl _) (by omega) (by intro x hx; rfl)
    have F := F.trans e22
    refine h_ready (rs := [7]) (by kernel_rfl) (by decide) ⟨?_, trivial⟩
    refine hs_appT (bytes := 8) (nm := m43_3) G22 (by rfl) (by rfl) elem2 ((F43_3.sl).ext F) (F43_3.sl).nil (by intro y hy; rfl) (by intro y hy u hu; simp only [i64c, List.mem_singleton] at hu; subst hu; rfl) (by omega) (by omega) (by omega) (by omega) F (by omega) rfl rfl rfl ?_
    intro p23 c23_ w23 m23 k23 G23
    have hz23 := m23.size
    have E := m23.toExt E (by omega)
    have F := m23.toExt F (by omega)
    replace O20 := k23 _ _ _ (by decide) O20
    try replace O21 := m23.own O21 (by omega)
    refine h_ready (rs := [9]) (by kernel_rfl) (by decide) ⟨?_, trivial⟩
    refine hs_appT (bytes := 8) (nm := (m43_3 + 1)) G23 (by rfl) (by rfl) elem2 (Own.sl1 (y := 1000000) O21) (by intro h; cases h) (by intro y hy; rfl) (by intro y hy u hu; rw [List.mem_singleton] at hy; subst hy; revert u; simp [Value.oneCell', i64c]) (by omega) (by omega) (by omega) (by omega) F (by omega) rfl rfl rfl ?_
    intro p24 c24_ w24 m24 k24 G24
    have hz24 := m24.size
    have E := m24.toExt E (by omega)
    have F := m24.toExt F (by omega)
    replace O20 := k24 _ _ _ (by decide) O20
    refine h_take 10 rfl (by kernel_rfl) (by kernel_rfl) (by kernel_rfl) (fun w' x_ => xbuild (vs := [.slice q43_1 m43_1 d43_1, .slice q43_2 m43_2 d43_2, .slice p24 (m43_3 + 1) c24_]) (cells := #[.slice q43_1 m43_1 d43_1, .slice q43_2 m43_2 d43_2, .slice p24 (m43_3 + 1) c24_]) rfl (by kernel_rfl)) rfl rfl rfl F ?_
    refine h_ready (rs := [12]) (by kernel_rfl) (by decide) ⟨?_, trivial⟩
    refine hs_storeN (vs := [.slice q43_1 m43_1 d43_1, .slice q43_2 m43_2 d43_2, .slice p24 (m43_3 + 1) c24_]) Tryz.sizeOf32 rfl rfl O20 rfl (by simp) (by simp [Value.oneCell']) F (by omega) rfl rfl ?_
    intro w25 on25 O25
    have hz25 := on25.size
    have E := on25.ext E (by omega)
    replace G24 := G24.onlyT O20 (by decide) on25
    have F := on25.ext F (by omega)
    replace O25 : Own w25 b20 [.slice q43_1 m43_1 d43_1, .slice q43_2 m43_2 d43_2, .slice p24 (m43_3 + 1) c24_] 32 := O25
    refine h_done (by kernel_rfl) ?_
    intro a_ ha_
    exact ⟨(p24, (m43_3 + 1), c24_, b20), ⟨F, ⟨G24.slF (by omega) (by omega), O25, by omega⟩⟩, ha_.sub ⟨rfl, rfl, rfl, rfl, rfl, rfl, rfl, rfl, rfl, trivial⟩⟩
   refine hs_build (len := 0) (vs := []) (cs := []) (sz := 1) Tryz.underlying24 inf2 rfl rfl (by decide) (by rfl) (by rfl) (by simp [Value.cells]) rfl F rfl rfl rfl ?_
   intro b21 w21 e21 hb21 hz21 O21
   have E := E.trans e21
   replace O20 := O20.ext e21
   have G21 : Ow i64c 1 2 w21 b21 (b21 + 1) (some ⟨b21, 0, none⟩) 0 0 ([] : List Int) := Own.ow (by simpa [i64c] using O21) rfl (by omega) (Nat.le_refl _) (by omega) (by intro x hx; rfl)
   have F := F.trans e21
   refine h_ready (rs := [7, 8]) (by kernel_rfl) (by decide) ⟨?_, ?_, trivial⟩
   ·
    refine hs_appT (bytes := 8) (nm := m43_3) G21 (by rfl) (by rfl) elem2 ((F43_3.sl).ext F) (F43_3.sl).nil (by intro y hy; rfl) (by intro y hy u hu; simp only [i64c, List.mem_singleton] at hu; subst hu; rfl) (by omega) (by omega) (by omega) (by omega) F (by omega) rfl rfl rfl ?_
    intro p22 c22_ w22 m22 k22 G22
    have hz22 := m22.size
    have E := m22.toExt E (by omega)
    have F := m22.toExt F (by omega)
    replace O20 := k22 _ _ _ (by decide) O20
    refine h_ready (rs := [8]) (by kernel_rfl) (by decide) ⟨?_, trivial⟩
    refine hs_build (len := 1) (vs := [.int .i64 1000000]) (cs := [.int .i64 1000000]) (sz := 1) Tryz.underlying24 inf2 rfl rfl (by decide) (by rfl) (by rfl) (by simp [Value.cells]) rfl F rfl rfl rfl ?_
    intro b23 w23 e23 hb23 hz23 O23
    have E := E.trans e23
    replace G22 := G22.ext e23
    replace O20 := O20.ext e23
    have F := F.trans e23
    refine h_ready (rs := [9]) (by kernel_rfl) (by decide) ⟨?_, trivial⟩
    refine hs_appT (bytes := 8) (nm := (m43_3 + 1)) G22 (by rfl) (by rfl) elem2 (Own.sl1 (y := 1000000) O23) (by intro h; cases h) (by intro y hy; rfl) (by intro y hy u hu; rw [List.mem_singleton] at hy; subst hy; revert u; simp [Value.oneCell', i64c]) (by omega) (by omega) (by omega) (by omega) F (by omega) rfl rfl rfl ?_
    intro p24 c24_ w24 m24 k24 G24
    have hz24 := m24.size
    have E := m24.toExt E (by omega)
    have F := m24.toExt F (by omega)
    replace O20 := k24 _ _ _ (by decide) O20
    refine h_take 10 rfl (by kernel_rfl) (by kernel_rfl) (by kernel_rfl) (fun w' x_ => xbuild (vs := [.slice q43_1 m43_1 d43_1, .slice q43_2 m43_2 d43_2, .slice p24 (m43_3 + 1) c24_]) (cells := #[.slice q43_1 m43_1 d43_1, .slice q43_2 m43_2 d43_2, .slice p24 (m43_3 + 1) c24_]) rfl (by kernel_rfl)) rfl rfl rfl F ?_
    refine h_ready (rs := [12]) (by kernel_rfl) (by decide) ⟨?_, trivial⟩
    refine hs_storeN (vs := [.slice q43_1 m43_1 d43_1, .slice q43_2 m43_2 d43_2, .slice p24 (m43_3 + 1) c24_]) Tryz.sizeOf32 rfl rfl O20 rfl (by simp) (by simp [Value.oneCell']) F (by omega) rfl rfl ?_
    intro w25 on25 O25
    have hz25 := on25.size
    have E := on25.ext E (by omega)
    replace G24 := G24.onlyT O20 (by decide) on25
    have F := on25.ext F (by omega)
    replace O25 : Own w25 b20 [.slice q43_1 m43_1 d43_1, .slice q43_2 m43_2 d43_2, .slice p24 (m43_3 + 1) c24_] 32 := O25
    refine h_done (by kernel_rfl) ?_
    intro a_ ha_
    exact ⟨(p24, (m43_3 + 1), c24_, b20), ⟨F, ⟨G24.slF (by omega) (by omega), O25, by omega⟩⟩, ha_.sub ⟨rfl, rfl, rfl, rfl, rfl, rfl, rfl, rfl, rfl, trivial⟩⟩
   refine hs_build (len := 1) (vs := [.int .i64 1000000]) (cs := [.int .i64 1000000]) (sz := 1) Tryz.underlying24 inf2 rfl rfl (by decide) (by rfl) (by rfl) (by simp [Value.cells]) rfl F rfl rfl rfl ?_
   intro b22 w22 e22 hb22 hz22 O22
   have E := E.trans e22
   replace G21 := G21.ext e22
   replace O20 := O20.ext e22
   have F := F.trans e22
   refine h_ready (rs := [7]) (by kernel_rfl) (by decide) ⟨?_, trivial⟩
   refine hs_appT (bytes := 8) (nm := m43_3) G21 (by rfl) (by rfl) elem2 ((F43_3.sl).ext F) (F43_3.sl).nil (by intro y hy; rfl) (by intro y hy u hu; simp only [i64c, List.mem_singleton] at hu; subst hu; rfl) (by omega) (by omega) (by omega) (by omega) F (by omega) rfl rfl rfl ?_
   intro p23 c23_ w23 m23 k23 G23
   have hz23 := m23.size
   have E := m23.toExt E (by omega)
   have F := m23.toExt F (by omega)
   replace O20 := k23 _ _ _ (by decide) O20
   try replace O22 := m23.own O22 (by omega)
   refine h_ready (rs := [9]) (by kernel_rfl) (by decide) ⟨?_, trivial⟩
   refine hs_appT (bytes := 8) (nm := (m43_3 + 1)) G23 (by rfl) (by rfl) elem2 (Own.sl1 (y := 1000000) O22) (by intro h; cases h) (by intro y hy; rfl) (by intro y hy u hu; rw [List.mem_singleton] at hy; subst hy; revert u; simp [Value.oneCell', i64c]) (by omega) (by omega) (by omega) (by omega) F (by omega) rfl rfl rfl ?_
   intro p24 c24_ w24 m24 k24 G24
   have hz24 := m24.size
   have E := m24.toExt E (by omega)
   have F := m24.toExt F (by omega)
   replace O20 := k24 _ _ _ (by decide) O20
   refine h_take 10 rfl (by kernel_rfl) (by kernel_rfl) (by kernel_rfl) (fun w' x_ => xbuild (vs := [.slice q43_1 m43_1 d43_1, .slice q43_2 m43_2 d43_2, .slice p24 (m43_3 + 1) c24_]) (cells := #[.slice q43_1 m43_1 d43_1, .slice q43_2 m43_2 d43_2, .slice p24 (m43_3 + 1) c24_]) rfl (by kernel_rfl)) rfl rfl rfl F ?_
   refine h_ready (rs := [12]) (by kernel_rfl) (by decide) ⟨?_, trivial⟩
   refine hs_storeN (vs := [.slice q43_1 m43_1 d43_1, .slice q43_2 m43_2 d43_2, .slice p24 (m43_3 + 1) c24_]) Tryz.sizeOf32 rfl rfl O20 rfl (by simp) (by simp [Value.oneCell']) F (by omega) rfl rfl ?_
   intro w25 on25 O25
   have hz25 := on25.size
   have E := on25.ext E (by omega)
   replace G24 := G24.onlyT O20 (by decide) on25
   have F := on25.ext F (by omega)
   replace O25 : Own w25 b20 [.slice q43_1 m43_1 d43_1, .slice q43_2 m43_2 d43_2, .slice p24 (m43_3 + 1) c24_] 32 := O25
   refine h_done (by kernel_rfl) ?_
   intro a_ ha_
   exact ⟨(p24, (m43_3 + 1), c24_, b20), ⟨F, ⟨G24.slF (by omega) (by omega), O25, by omega⟩⟩, ha_.sub ⟨rfl, rfl, rfl, rfl, rfl, rfl, rfl, rfl, rfl, trivial⟩⟩
  refine hs_build (len := 0) (vs := []) (cs := []) (sz := 1) Tryz.underlying24 inf2 rfl rfl (by decide) (by rfl) (by rfl) (by simp [Value.cells]) rfl F rfl rfl rfl ?_
  intro b20 w20 e20 hb20 hz20 O20
  have E := E.trans e20
  have G20 : Ow i64c 1 2 w20 b20 (b20 + 1) (some ⟨b20, 0, none⟩) 0 0 ([] : List Int) := Own.ow (by simpa [i64c] using O20) rfl (by omega) (Nat.le_refl _) (by omega) (by intro x hx; rfl)
  have F := F.trans e20
  refine h_ready (rs := [7, 8, 11]) (by kernel_rfl) (by decide) ⟨?_, ?_, ?_, trivial⟩
  rotate_left 2
  ·
   refine hs_alloc Tryz.zeroValue32 F rfl rfl rfl ?_
   intro b21 w21 e21 hb21 hz21 O21
   have E := E.trans e21
   replace G20 := G20.ext e21
   have F := F.trans e21
   replace O21 : Own w21 b21 [.slice none 0 0, .slice none 0 0, .slice none 0 0] 32 := O21
   refine h_ready (rs := [7, 8]) (by kernel_rfl) (by decide) ⟨?_, ?_, trivial⟩
   ·
    refine hs_appT (bytes := 8) (nm := m43_3) G20 (by rfl) (by rfl) elem2 ((F43_3.sl).ext F) (F43_3.sl).nil (by intro y hy; rfl) (by intro y hy u hu; simp only [i64c, List.mem_singleton] at hu; subst hu; rfl) (by omega) (by omega) (by omega) (by omega) F (by omega) rfl rfl rfl ?_
    intro p22 c22_ w22 m22 k22 G22
    have hz22 := m22.size
    have E := m22.toExt E (by omega)
    have F := m22.toExt F (by omega)
    replace O21 := k22 _ _ _ (by decide) O21
    refine h_ready (rs := [8]) (by kernel_rfl) (by decide) ⟨?_, trivial⟩
    refine hs_build (len := 1) (vs := [.int .i64 1000000]) (cs := [.int .i64 1000000]) (sz := 1) Tryz.underlying24 inf2 rfl rfl (by decide) (by rfl) (by rfl) (by simp [Value.cells]) rfl F rfl rfl rfl ?_
    intro b23 w23 e23 hb23 hz23 O23
    have E := E.trans e23
    replace G22 := G22.ext e23
    replace O21 := O21.ext e23
    have F := F.trans e23
    refine h_ready (rs := [9]) (by kernel_rfl) (by decide) ⟨?_, trivial⟩
    refine hs_appT (bytes := 8) (nm := (m43_3 + 1)) G22 (by rfl) (by rfl) elem2 (Own.sl1 (y := 1000000) O23) (by intro h; cases h) (by intro y hy; rfl) (by intro y hy u hu; rw [List.mem_singleton] at hy; subst hy; revert u; simp [Value.oneCell', i64c]) (by omega) (by omega) (by omega) (by omega) F (by omega) rfl rfl rfl ?_
    intro p24 c24_ w24 m24 k24 G24
    have hz24 := m24.size
    have E := m24.toExt E (by omega)
    have F := m24.toExt F (by omega)
    replace O21 := k24 _ _ _ (by decide) O21
    refine h_take 10 rfl (by kernel_rfl) (by kernel_rfl) (by kernel_rfl) (fun w' x_ => xbuild (vs := [.slice q43_1 m43_1 d43_1, .slice q43_2 m43_2 d43_2, .slice p24 (m43_3 + 1) c24_]) (cells := #[.slice q43_1 m43_1 d43_1, .slice q43_2 m43_2 d43_2, .slice p24 (m43_3 + 1) c24_]) rfl (by kernel_rfl)) rfl rfl rfl F ?_
    refine h_ready (rs := [12]) (by kernel_rfl) (by decide) ⟨?_, trivial⟩
    refine hs_storeN (vs := [.slice q43_1 m43_1 d43_1, .slice q43_2 m43_2 d43_2, .slice p24 (m43_3 + 1) c24_]) Tryz.sizeOf32 rfl rfl O21 rfl (by simp) (by simp [Value.oneCell']) F (by omega) rfl rfl ?_
    intro w25 on25 O25
    have hz25 := on25.size
    have E := on25.ext E (by omega)
    replace G24 := G24.onlyT O21 (by decide) on25
    have F := on25.ext F (by omega)
    replace O25 : Own w25 b21 [.slice q43_1 m43_1 d43_1, .slice q43_2 m43_2 d43_2, .slice p24 (m43_3 + 1) c24_] 32 := O25
    refine h_done (by kernel_rfl) ?_
    intro a_ ha_
    exact ⟨(p24, (m43_3 + 1), c24_, b21), ⟨F, ⟨G24.slF (by omega) (by omega), O25, by omega⟩⟩, ha_.sub ⟨rfl, rfl, rfl, rfl, rfl, rfl, rfl, rfl, rfl, trivial⟩⟩
   refine hs_build (len := 1) (vs := [.int .i64 1000000]) (cs := [.int .i64 1000000]) (sz := 1) Tryz.underlying24 inf2 rfl rfl (by decide) (by rfl) (by rfl) (by simp [Value.cells]) rfl F rfl rfl rfl ?_
   intro b22 w22 e22 hb22 hz22 O22
   have E := E.trans e22
   replace G20 := G20.ext e22
   replace O21 := O21.ext e22
   have F := F.trans e22
   refine h_ready (rs := [7]) (by kernel_rfl) (by decide) ⟨?_, trivial⟩
   refine hs_appT (bytes := 8) (nm := m43_3) G20 (by rfl) (by rfl) elem2 ((F43_3.sl).ext F) (F43_3.sl).nil (by intro y hy; rfl) (by intro y hy u hu; simp only [i64c, List.mem_singleton] at hu; subst hu; rfl) (by omega) (by omega) (by omega) (by omega) F (by omega) rfl rfl rfl ?_
   intro p23 c23_ w23 m23 k23 G23
   have hz23 := m23.size
   have E := m23.toExt E (by omega)
   have F := m23.toExt F (by omega)
   replace O21 := k23 _ _ _ (by decide) O21
   try replace O22 := m23.own O22 (by omega)
   refine h_ready (rs := [9]) (by kernel_rfl) (by decide) ⟨?_, trivial⟩
   refine hs_appT (bytes := 8) (nm := (m43_3 + 1)) G23 (by rfl) (by rfl) elem2 (Own.sl1 (y := 1000000) O22) (by intro h; cases h) (by intro y hy; rfl) (by intro y hy u hu; rw [List.mem_singleton] at hy; subst hy; revert u; simp [Value.oneCell', i64c]) (by omega) (by omega) (by omega) (by omega) F (by omega) rfl rfl rfl ?_
   intro p24 c24_ w24 m24 k24 G24
   have hz24 := m24.size
   have E := m24.toExt E (by omega)
   have F := m24.toExt F (by omega)
   replace O21 := k24 _ _ _ (by decide) O21
   refine h_take 10 rfl (by kernel_rfl) (by kernel_rfl) (by kernel_rfl) (fun w' x_ => xbuild (vs := [.slice q43_1 m43_1 d43_1, .slice q43_2 m43_2 d43_2, .slice p24 (m43_3 + 1) c24_]) (cells := #[.slice q43_1 m43_1 d43_1, .slice q43_2 m43_2 d43_2, .slice p24 (m43_3 + 1) c24_]) rfl (by kernel_rfl)) rfl rfl rfl F ?_
   refine h_ready (rs := [12]) (by kernel_rfl) (by decide) ⟨?_, trivial⟩
   refine hs_storeN (vs := [.slice q43_1 m43_1 d43_1, .slice q43_2 m43_2 d43_2, .slice p24 (m43_3 + 1) c24_]) Tryz.sizeOf32 rfl rfl O21 rfl (by simp) (by simp [Value.oneCell']) F (by omega) rfl rfl ?_
   intro w25 on25 O25
   have hz25 := on25.size
   have E := on25.ext E (by omega)
   replace G24 := G24.onlyT O21 (by decide) on25
   have F := on25.ext F (by omega)
   replace O25 : Own w25 b21 [.slice q43_1 m43_1 d43_1, .slice q43_2 m43_2 d43_2, .slice p24 (m43_3 + 1) c24_] 32 := O25
   refine h_done (by kernel_rfl) ?_
   intro a_ ha_
   exact ⟨(p24, (m43_3 + 1), c24_, b21), ⟨F, ⟨G24.slF (by omega) (by omega), O25, by omega⟩⟩, ha_.sub ⟨rfl, rfl, rfl, rfl, rfl, rfl, rfl, rfl, rfl, trivial⟩⟩
  ·
   refine hs_appT (bytes := 8) (nm := m43_3) G20 (by rfl) (by rfl) elem2 ((F43_3.sl).ext F) (F43_3.sl).nil (by intro y hy; rfl) (by intro y hy u hu; simp only [i64c, List.mem_singleton] at hu; subst hu; rfl) (by omega) (by omega) (by omega) (by omega) F (by omega) rfl rfl rfl ?_
   intro p21 c21_ w21 m21 k21 G21
   have hz21 := m21.size
   have E := m21.toExt E (by omega)
   have F := m21.toExt F (by omega)
   refine h_ready (rs := [8, 11]) (by kernel_rfl) (by decide) ⟨?_, ?_, trivial⟩
   rotate_left
   ·
    refine hs_alloc Tryz.zeroValue32 F rfl rfl rfl ?_
    intro b22 w22 e22 hb22 hz22 O22
    have E := E.trans e22
    replace G21 := G21.ext e22
    have F := F.trans e22
    replace O22 : Own w22 b22 [.slice none 0 0, .slice none 0 0, .slice none 0 0] 32 := O22
    refine h_ready (rs := [8]) (by kernel_rfl) (by decide) ⟨?_, trivial⟩
    refine hs_build (len := 1) (vs := [.int .i64 1000000]) (cs := [.int .i64 1000000]) (sz := 1) Tryz.underlying24 inf2 rfl rfl (by decide) (by rfl) (by rfl) (by simp [Value.cells]) rfl F rfl rfl rfl ?_
    intro b23 w23 e23 hb23 hz23 O23
    have E := E.trans e23
    replace G21 := G21.ext e23
    replace O22 := O22.ext e23
    have F := F.trans e23
    refine h_ready (rs := [9]) (by kernel_rfl) (by decide) ⟨?_, trivial⟩
    refine hs_appT (bytes := 8) (nm := (m43_3 + 1)) G21 (by rfl) (by rfl) elem2 (Own.sl1 (y := 1000000) O23) (by intro h; cases h) (by intro y hy; rfl) (by intro y hy u hu; rw [List.mem_singleton] at hy; subst hy; revert u; simp [Value.oneCell', i64c]) (by omega) (by omega) (by omega) (by omega) F (by omega) rfl rfl rfl ?_
    intro p24 c24_ w24 m24 k24 G24
    have hz24 := m24.size
    have E := m24.toExt E (by omega)
    have F := m24.toExt F (by omega)
    replace O22 := k24 _ _ _ (by decide) O22
    refine h_take 10 rfl (by kernel_rfl) (by kernel_rfl) (by kernel_rfl) (fun w' x_ => xbuild (vs := [.slice q43_1 m43_1 d43_1, .slice q43_2 m43_2 d43_2, .slice p24 (m43_3 + 1) c24_]) (cells := #[.slice q43_1 m43_1 d43_1, .slice q43_2 m43_2 d43_2, .slice p24 (m43_3 + 1) c24_]) rfl (by kernel_rfl)) rfl rfl rfl F ?_
    refine h_ready (rs := [12]) (by kernel_rfl) (by decide) ⟨?_, trivial⟩
    refine hs_storeN (vs := [.slice q43_1 m43_1 d43_1, .slice q43_2 m43_2 d43_2, .slice p24 (m43_3 + 1) c24_]) Tryz.sizeOf32 rfl rfl O22 rfl (by simp) (by simp [Value.oneCell']) F (by omega) rfl rfl ?_
    intro w25 on25 O25
    have hz25 := on25.size
    have E := on25.ext E (by omega)
    replace G24 := G24.onlyT O22 (by decide) on25
    have F := on25.ext F (by omega)
    replace O25 : Own w25 b22 [.slice q43_1 m43_1 d43_1, .slice q43_2 m43_2 d43_2, .slice p24 (m43_3 + 1) c24_] 32 := O25
    refine h_done (by kernel_rfl) ?_
    intro a_ ha_
    exact ⟨(p24, (m43_3 + 1), c24_, b22), ⟨F, ⟨G24.slF (by omega) (by omega), O25, by omega⟩⟩, ha_.sub ⟨rfl, rfl, rfl, rfl, rfl, rfl, rfl, rfl, rfl, trivial⟩⟩
   refine hs_build (len := 1) (vs := [.int .i64 1000000]) (cs := [.int .i64 1000000]) (sz := 1) Tryz.underlying24 inf2 rfl rfl (by decide) (by rfl) (by rfl) (by simp [Value.cells]) rfl F rfl rfl rfl ?_
   intro b22 w22 e22 hb22 hz22 O22
   have E := E.trans e22
   replace G21 := G21.ext e22
   have F := F.trans e22
   refine h_ready (rs := [9, 11]) (by kernel_rfl) (by decide) ⟨?_, ?_, trivial⟩
   ·
    refine hs_appT (bytes := 8) (nm := (m43_3 + 1)) G21 (by rfl) (by rfl) elem2 (Own.sl1 (y := 1000000) O22) (by intro h; cases h) (by intro y hy; rfl) (by intro y hy u hu; rw [List.mem_singleton] at hy; subst hy; revert u; simp [Value.oneCell', i64c]) (by omega) (by omega) (by omega) (by omega) F (by omega) rfl rfl rfl ?_
    intro p23 c23_ w23 m23 k23 G23
    have hz23 := m23.size
    have E := m23.toExt E (by omega)
    have F := m23.toExt F (by omega)
    refine h_take 10 rfl (by kernel_rfl) (by kernel_rfl) (by kernel_rfl) (fun w' x_ => xbuild (vs := [.slice q43_1 m43_1 d43_1, .slice q43_2 m43_2 d43_2, .slice p23 (m43_3 + 1) c23_]) (cells := #[.slice q43_1 m43_1 d43_1, .slice q43_2 m43_2 d43_2, .slice p23 (m43_3 + 1) c23_]) rfl (by kernel_rfl)) rfl rfl rfl F ?_
    refine h_ready (rs := [11]) (by kernel_rfl) (by decide) ⟨?_, trivial⟩
    refine hs_alloc Tryz.zeroValue32 F rfl rfl rfl ?_
    intro b24 w24 e24 hb24 hz24 O24
    have E := E.trans e24
    replace G23 := G23.ext e24
    have F := F.trans e24
    replace O24 : Own w24 b24 [.slice none 0 0, .slice none 0 0, .slice none 0 0] 32 := O24
    refine h_ready (rs := [12]) (by kernel_rfl) (by decide) ⟨?_, trivial⟩
    refine hs_storeN (vs := [.slice q43_1 m43_1 d43_1, .slice q43_2 m43_2 d43_2, .slice p23 (m43_3 + 1) c23_]) Tryz.sizeOf32 rfl rfl O24 rfl (by simp) (by simp [Value.oneCell']) F (by omega) rfl rfl ?_
    intro w25 on25 O25
    have hz25 := on25.size
    have E := on25.ext E (by omega)
    replace G23 := G23.onlyT O24 (by decide) on25
    have F := on25.ext F (by omega)
    replace O25 : Own w25 b24 [.slice q43_1 m43_1 d43_1, .slice q43_2 m43_2 d43_2, .slice p23 (m43_3 + 1) c23_] 32 := O25
    refine h_done (by kernel_rfl) ?_
    intro a_ ha_
    exact ⟨(p23, (m43_3 + 1), c23_, b24), ⟨F, ⟨G23.slF (by omega) (by omega), O25, by omega⟩⟩, ha_.sub ⟨rfl, rfl, rfl, rfl, rfl, rfl, rfl, rfl, rfl, trivial⟩⟩
   refine hs_alloc Tryz.zeroValue32 F rfl rfl rfl ?_
   intro b23 w23 e23 hb23 hz23 O23
   have E := E.trans e23
   replace G21 := G21.ext e23
   replace O22 := O22.ext e23
   have F := F.trans e23
   replace O23 : Own w23 b23 [.slice none 0 0, .slice none 0 0, .slice none 0 0] 32 := O23
   refine h_ready (rs := [9]) (by kernel_rfl) (by decide) ⟨?_, trivial⟩
   refine hs_appT (bytes := 8) (nm := (m43_3 + 1)) G21 (by rfl) (by rfl) elem2 (Own.sl1 (y := 1000000) O22) (by intro h; cases h) (by intro y hy; rfl) (by intro y hy u hu; rw [List.mem_singleton] at hy; subst hy; revert u; simp [Value.oneCell', i64c]) (by omega) (by omega) (by omega) (by omega) F (by omega) rfl rfl rfl ?_
   intro p24 c24_ w24 m24 k24 G24
   have hz24 := m24.size
   have E := m24.toExt E (by omega)
   have F := m24.toExt F (by omega)
   replace O23 := k24 _ _ _ (by decide) O23
   refine h_take 10 rfl (by kernel_rfl) (by kernel_rfl) (by kernel_rfl) (fun w' x_ => xbuild (vs := [.slice q43_1 m43_1 d43_1, .slice q43_2 m43_2 d43_2, .slice p24 (m43_3 + 1) c24_]) (cells := #[.slice q43_1 m43_1 d43_1, .slice q43_2 m43_2 d43_2, .slice p24 (m43_3 + 1) c24_]) rfl (by kernel_rfl)) rfl rfl rfl F ?_
   refine h_ready (rs := [12]) (by kernel_rfl) (by decide) ⟨?_, trivial⟩
   refine hs_storeN (vs := [.slice q43_1 m43_1 d43_1, .slice q43_2 m43_2 d43_2, .slice p24 (m43_3 + 1) c24_]) Tryz.sizeOf32 rfl rfl O23 rfl (by simp) (by simp [Value.oneCell']) F (by omega) rfl rfl ?_
   intro w25 on25 O25
   have hz25 := on25.size
   have E := on25.ext E (by omega)
   replace G24 := G24.onlyT O23 (by decide) on25
   have F := on25.ext F (by omega)
   replace O25 : Own w25 b23 [.slice q43_1 m43_1 d43_1, .slice q43_2 m43_2 d43_2, .slice p24 (m43_3 + 1) c24_] 32 := O25
   refine h_done (by kernel_rfl) ?_
   intro a_ ha_
   exact ⟨(p24, (m43_3 + 1), c24_, b23), ⟨F, ⟨G24.slF (by omega) (by omega), O25, by omega⟩⟩, ha_.sub ⟨rfl, rfl, rfl, rfl, rfl, rfl, rfl, rfl, rfl, trivial⟩⟩
  refine hs_build (len := 1) (vs := [.int .i64 1000000]) (cs := [.int .i64 1000000]) (sz := 1) Tryz.underlying24 inf2 rfl rfl (by decide) (by rfl) (by rfl) (by simp [Value.cells]) rfl F rfl rfl rfl ?_
  intro b21 w21 e21 hb21 hz21 O21
  have E := E.trans e21
  replace G20 := G20.ext e21
  have F := F.trans e21
  refine h_ready (rs := [7, 11]) (by kernel_rfl) (by decide) ⟨?_, ?_, trivial⟩
  rotate_left
  ·
   refine hs_alloc Tryz.zeroValue32 F rfl rfl rfl ?_
   intro b22 w22 e22 hb22 hz22 O22
   have E := E.trans e22
   replace G20 := G20.ext e22
   replace O21 := O21.ext e22
   have F := F.trans e22
   replace O22 : Own w22 b22 [.slice none 0 0, .slice none 0 0, .slice none 0 0] 32 := O22
   refine h_ready (rs := [7]) (by kernel_rfl) (by decide) ⟨?_, trivial⟩
   refine hs_appT (bytes := 8) (nm := m43_3) G20 (by rfl) (by rfl) elem2 ((F43_3.sl).ext F) (F43_3.sl).nil (by intro y hy; rfl) (by intro y hy u hu; simp only [i64c, List.mem_singleton] at hu; subst hu; rfl) (by omega) (by omega) (by omega) (by omega) F (by omega) rfl rfl rfl ?_
   intro p23 c23_ w23 m23 k23 G23
   have hz23 := m23.size
   have E := m23.toExt E (by omega)
   have F := m23.toExt F (by omega)
   try replace O21 := m23.own O21 (by omega)
   replace O22 := k23 _ _ _ (by decide) O22
   refine h_ready (rs := [9]) (by kernel_rfl) (by decide) ⟨?_, trivial⟩
   refine hs_appT (bytes := 8) (nm := (m43_3 + 1)) G23 (by rfl) (by rfl) elem2 (Own.sl1 (y := 1000000) O21) (by intro h; cases h) (by intro y hy; rfl) (by intro y hy u hu; rw [List.mem_singleton] at hy; subst hy; revert u; simp [Value.oneCell', i64c]) (by omega) (by omega) (by omega) (by omega) F (by omega) rfl rfl rfl ?_
   intro p24 c24_ w24 m24 k24 G24
   have hz24 := m24.size
   have E := m24.toExt E (by omega)
   have F := m24.toExt F (by omega)
   replace O22 := k24 _ _ _ (by decide) O22
   refine h_take 10 rfl (by kernel_rfl) (by kernel_rfl) (by kernel_rfl) (fun w' x_ => xbuild (vs := [.slice q43_1 m43_1 d43_1, .slice q43_2 m43_2 d43_2, .slice p24 (m43_3 + 1) c24_]) (cells := #[.slice q43_1 m43_1 d43_1, .slice q43_2 m43_2 d43_2, .slice p24 (m43_3 + 1) c24_]) rfl (by kernel_rfl)) rfl rfl rfl F ?_
   refine h_ready (rs := [12]) (by kernel_rfl) (by decide) ⟨?_, trivial⟩
   refine hs_storeN (vs := [.slice q43_1 m43_1 d43_1, .slice q43_2 m43_2 d43_2, .slice p24 (m43_3 + 1) c24_]) Tryz.sizeOf32 rfl rfl O22 rfl (by simp) (by simp [Value.oneCell']) F (by omega) rfl rfl ?_
   intro w25 on25 O25
   have hz25 := on25.size
   have E := on25.ext E (by omega)
   replace G24 := G24.onlyT O22 (by decide) on25
   have F := on25.ext F (by omega)
   replace O25 : Own w25 b22 [.slice q43_1 m43_1 d43_1, .slice q43_2 m43_2 d43_2, .slice p24 (m43_3 + 1) c24_] 32 := O25
   refine h_done (by kernel_rfl) ?_
   intro a_ ha_
   exact ⟨(p24, (m43_3 + 1), c24_, b22), ⟨F, ⟨G24.slF (by omega) (by omega), O25, by omega⟩⟩, ha_.sub ⟨rfl, rfl, rfl, rfl, rfl, rfl, rfl, rfl, rfl, trivial⟩⟩
  refine hs_appT (bytes := 8) (nm := m43_3) G20 (by rfl) (by rfl) elem2 ((F43_3.sl).ext F) (F43_3.sl).nil (by intro y hy; rfl) (by intro y hy u hu; simp only [i64c, List.mem_singleton] at hu; subst hu; rfl) (by omega) (by omega) (by omega) (by omega) F (by omega) rfl rfl rfl ?_
  intro p22 c22_ w22 m22 k22 G22
  have hz22 := m22.size
  have E := m22.toExt E (by omega)
  have F := m22.toExt F (by omega)
  try replace O21 := m22.own O21 (by omega)
  refine h_ready (rs := [9, 11]) (by kernel_rfl) (by decide) ⟨?_, ?_, trivial⟩
  ·
   refine hs_appT (bytes := 8) (nm := (m43_3 + 1)) G22 (by rfl) (by rfl) elem2 (Own.sl1 (y := 1000000) O21) (by intro h; cases h) (by intro y hy; rfl) (by intro y hy u hu; rw [List.mem_singleton] at hy; subst hy; revert u; simp [Value.oneCell', i64c]) (by omega) (by omega) (by omega) (by omega) F (by omega) rfl rfl rfl ?_
   intro p23 c23_ w23 m23 k23 G23
   have hz23 := m23.size
   have E := m23.toExt E (by omega)
   have F := m23.toExt F (by omega)
   refine h_take 10 rfl (by kernel_rfl) (by kernel_rfl) (by kernel_rfl) (fun w' x_ => xbuild (vs := [.slice q43_1 m43_1 d43_1, .slice q43_2 m43_2 d43_2, .slice p23 (m43_3 + 1) c23_]) (cells := #[.slice q43_1 m43_1 d43_1, .slice q43_2 m43_2 d43_2, .slice p23 (m43_3 + 1) c23_]) rfl (by kernel_rfl)) rfl rfl rfl F ?_
   refine h_ready (rs := [11]) (by kernel_rfl) (by decide) ⟨?_, trivial⟩
   refine hs_alloc Tryz.zeroValue32 F rfl rfl rfl ?_
   intro b24 w24 e24 hb24 hz24 O24
   have E := E.trans e24
   replace G23 := G23.ext e24
   have F := F.trans e24
   replace O24 : Own w24 b24 [.slice none 0 0, .slice none 0 0, .slice none 0 0] 32 := O24
   refine h_ready (rs := [12]) (by kernel_rfl) (by decide) ⟨?_, trivial⟩
   refine hs_storeN (vs := [.slice q43_1 m43_1 d43_1, .slice q43_2 m43_2 d43_2, .slice p23 (m43_3 + 1) c23_]) Tryz.sizeOf32 rfl rfl O24 rfl (by simp) (by simp [Value.oneCell']) F (by omega) rfl rfl ?_
   intro w25 on25 O25
   have hz25 := on25.size
   have E := on25.ext E (by omega)
   replace G23 := G23.onlyT O24 (by decide) on25
   have F := on25.ext F (by omega)
   replace O25 : Own w25 b24 [.slice q43_1 m43_1 d43_1, .slice q43_2 m43_2 d43_2, .slice p23 (m43_3 + 1) c23_] 32 := O25
   refine h_done (by kernel_rfl) ?_
   intro a_ ha_
   exact ⟨(p23, (m43_3 + 1), c23_, b24), ⟨F, ⟨G23.slF (by omega) (by omega), O25, by omega⟩⟩, ha_.sub ⟨rfl, rfl, rfl, rfl, rfl, rfl, rfl, rfl, rfl, trivial⟩⟩
  refine hs_alloc Tryz.zeroValue32 F rfl rfl rfl ?_
  intro b23 w23 e23 hb23 hz23 O23
  have E := E.trans e23
  replace G22 := G22.ext e23
  replace O21 := O21.ext e23
  have F := F.trans e23
  replace O23 : Own w23 b23 [.slice none 0 0, .slice none 0 0, .slice none 0 0] 32 := O23
  refine h_ready (rs := [9]) (by kernel_rfl) (by decide) ⟨?_, trivial⟩
  refine hs_appT (bytes := 8) (nm := (m43_3 + 1)) G22 (by rfl) (by rfl) elem2 (Own.sl1 (y := 1000000) O21) (by intro h; cases h) (by intro y hy; rfl) (by intro y hy u hu; rw [List.mem_singleton] at hy; subst hy; revert u; simp [Value.oneCell', i64c]) (by omega) (by omega) (by omega) (by omega) F (by omega) rfl rfl rfl ?_
  intro p24 c24_ w24 m24 k24 G24
  have hz24 := m24.size
  have E := m24.toExt E (by omega)
  have F := m24.toExt F (by omega)
  replace O23 := k24 _ _ _ (by decide) O23
  refine h_take 10 rfl (by kernel_rfl) (by kernel_rfl) (by kernel_rfl) (fun w' x_ => xbuild (vs := [.slice q43_1 m43_1 d43_1, .slice q43_2 m43_2 d43_2, .slice p24 (m43_3 + 1) c24_]) (cells := #[.slice q43_1 m43_1 d43_1, .slice q43_2 m43_2 d43_2, .slice p24 (m43_3 + 1) c24_]) rfl (by kernel_rfl)) rfl rfl rfl F ?_
  refine h_ready (rs := [12]) (by kernel_rfl) (by decide) ⟨?_, trivial⟩
  refine hs_storeN (vs := [.slice q43_1 m43_1 d43_1, .slice q43_2 m43_2 d43_2, .slice p24 (m43_3 + 1) c24_]) Tryz.sizeOf32 rfl rfl O23 rfl (by simp) (by simp [Value.oneCell']) F (by omega) rfl rfl ?_
  intro w25 on25 O25
  have hz25 := on25.size
  have E := on25.ext E (by omega)
  replace G24 := G24.onlyT O23 (by decide) on25
  have F := on25.ext F (by omega)
  replace O25 : Own w25 b23 [.slice q43_1 m43_1 d43_1, .slice q43_2 m43_2 d43_2, .slice p24 (m43_3 + 1) c24_] 32 := O25
  refine h_done (by kernel_rfl) ?_
  intro a_ ha_
  exact ⟨(p24, (m43_3 + 1), c24_, b23), ⟨F, ⟨G24.slF (by omega) (by omega), O25, by omega⟩⟩, ha_.sub ⟨rfl, rfl, rfl, rfl, rfl, rfl, rfl, rfl, rfl, trivial⟩⟩
 intro x_
 obtain ⟨qo, mo, do_, bx⟩ := x_
 rintro w20 ⟨e20, FO, OX, hbx⟩
 have z20 := e20.size
 have E := E.trans e20
 replace F35_1 := F35_1.ext e20
 replace F35_2 := F35_2.ext e20
 replace F35_3 := F35_3.ext e20
 replace F35_4 := F35_4.ext e20
 replace F35_5 := F35_5.ext e20
 replace F43_1 := F43_1.ext e20
 replace F43_2 := F43_2.ext e20
 replace F43_3 := F43_3.ext e20
 replace O_b12 := O_b12.ext e20
 replace O_b3 := O_b3.ext e20
 replace O_b6 := O_b6.ext e20
 replace O_b9 := O_b9.ext e20
 have lOX := OX.lt
 refine sr_ ?_
 refine oz_ (v := .agg #[.int .i64 r35.C, .int .i64 r35.St, .int .i64 r35.Sa, .slice q35_1 m35_1 d35_1, .int .i64 r35.Se, .slice q35_2 m35_2 d35_2, .slice q35_3 m35_3 d35_3, .int .i64 r35.Me, .int .i64 r35.Al]) (xloadN Tryz.isAgg26 Tryz.sizeOf26 rfl (O_b3.cells) rfl) rfl rfl ?_
 refine vm_ rfl rfl rfl ?_
 refine vm_ rfl rfl rfl ?_
 refine oz_ (v := .agg #[.slice q43_1 m43_1 d43_1, .slice q43_2 m43_2 d43_2, .slice qo mo do_]) (xloadN Tryz.isAgg32 Tryz.sizeOf32 rfl (OX.cells) rfl) rfl rfl ?_
 refine oc (xcall Tryz.call17 rfl) rfl rfl rfl (IsTrueJury_ok _ _ _ _ _ _ _ _ _ r35 _ _ _ ts35 _ _ _ ps35 _ _ _ _ _ _ _ _ _ (⟨(replayR r35 ts35 ps35).1.S, (replayR r35 ts35 ps35).1.A, ([] ++ (replayR r35 ts35 ps35).1.L) ++ [1000000]⟩ : Jur) _ (F35_1.sl) (F35_2.sl) (F35_3.sl) (F35_4.sl) (by assumption) (F35_5.sl) (by assumption) (F43_1.sl) (F43_2.sl) (FO.sl)) ?_
 rintro _ w21 ⟨rfl, e21⟩
 have z21 := e21.size
 have E := E.trans e21
 replace F35_1 := F35_1.ext e21
 replace F43_1 := F43_1.ext e21
 replace F43_2 := F43_2.ext e21
 replace F43_3 := F43_3.ext e21
 replace O_b12 := O_b12.ext e21
 replace O_b3 := O_b3.ext e21
 replace O_b6 := O_b6.ext e21
 replace O_b9 := O_b9.ext e21
 replace OX := OX.ext e21
 refine vm_ rfl rfl rfl ?_
 refine oz_ (xextract rfl rfl) rfl rfl ?_
 refine obs (fun c161 => ?_) (fun c161 => ?_)
 ·
  exfalso; rw [ts2] at c161; cases c161
 refine oz_ (xextract rfl rfl) rfl rfl ?_
 refine va_ rfl rfl rfl ?_
 refine vn_ rfl rfl rfl ?_
 refine run_seq ?_
 refine sr_ ?_
 refine vm_ rfl rfl rfl ?_
 refine oz_ (xneq rfl rfl _ rfl) rfl rfl ?_
 refine ods (fun c164 => ?_) (fun c164 => ?_)
 ·
  exfalso; exact c164 (by rw [hh1])
 refine vm_ rfl rfl rfl ?_
 refine vm_ rfl rfl rfl ?_
 refine oz_ (xneq rfl rfl _ rfl) rfl rfl ?_
 refine ods (fun c167 => ?_) (fun c167 => ?_)
 ·
  exfalso; exact c167 (by rw [ts1])
 refine oz_ (xpick_f rfl rfl) rfl rfl ?_
 refine vm_ rfl rfl rfl ?_
 refine vm_ rfl rfl rfl ?_
 refine vm_ rfl rfl rfl ?_
 refine oz_ (xbneq Tryz.underlying4 rfl rfl) rfl rfl ?_
 refine ods (fun c172 => ?_) (fun c172 => ?_)
 ·
  exfalso; exact c172 (by rw [ts1, hh1])
 refine oz_ (xpick_f rfl rfl) rfl rfl ?_
 refine vm_ rfl rfl rfl ?_
 refine vm_ rfl rfl rfl ?_
 refine oz_ (xneq rfl rfl _ rfl) rfl rfl ?_
 refine ods (fun c176 => ?_) (fun c176 => ?_)
 ·
  exfalso; exact c176 (by rw [ts2])
 refine oz_ (xpick_f rfl rfl) rfl rfl ?_
 refine vm_ rfl rfl rfl ?_
 refine vm_ rfl rfl rfl ?_
 refine oz_ (xpick_f rfl rfl) rfl rfl ?_
 refine vm_ rfl rfl rfl ?_
 refine oz_ (v := .agg #[.slice q43_1 m43_1 d43_1, .slice q43_2 m43_2 d43_2, .slice q43_3 m43_3 d43_3]) (xloadN Tryz.isAgg32 Tryz.sizeOf32 rfl (O_b6.cells) rfl) rfl rfl ?_
 refine oc (xcall Tryz.call18 rfl) rfl rfl rfl (IsJury_ok _ _ _ _ _ _ _ _ _ (replayR r35 ts35 ps35).1 _ (F43_1.sl) (F43_2.sl) (F43_3.sl) (by omega)) ?_
 rintro _ w22 ⟨rfl, e22⟩
 have z22 := e22.size
 have E := E.trans e22
 replace F35_1 := F35_1.ext e22
 replace F43_1 := F43_1.ext e22
 replace F43_2 := F43_2.ext e22
 replace O_b12 := O_b12.ext e22
 replace O_b3 := O_b3.ext e22
 replace O_b6 := O_b6.ext e22
 replace O_b9 := O_b9.ext e22
 replace OX := OX.ext e22
 refine obs (fun c183 => ?_) (fun c183 => ?_)
 rotate_left
 ·
  exfalso; rw [rz4] at c183; cases c183
 refine oz_ (xnot rfl) rfl rfl ?_
 refine oz_ (xpick_f rfl rfl) rfl rfl ?_
 refine cf_ rfl ?_
 refine run_seq ?_
 have RE := E
 have RO_b12 := O_b12
 have RO_b3 := O_b3
 have RO_b6 := O_b6
 have RO_b9 := O_b9
 have ROX := OX
 refine run_heldC (Ext.refl _) (by kernel_rfl) ?_
 intro wh25 F
 have zh25 := F.size
 have E := E.trans F
 replace F35_1 := F35_1.ext F
 replace F43_1 := F43_1.ext F
 replace F43_2 := F43_2.ext F
 replace O_b12 := O_b12.ext F
 replace O_b3 := O_b3.ext F
 replace O_b6 := O_b6.ext F
 replace O_b9 := O_b9.ext F
 replace OX := OX.ext F
 refine h_take 1 rfl (by kernel_rfl) (by kernel_rfl) (by kernel_rfl) (fun w' x_ => xfieldAddr fo32f0 rfl) rfl rfl rfl F ?_
 refine h_take 2 (v := .slice q43_1 m43_1 d43_1) rfl (by kernel_rfl) (by kernel_rfl) (by kernel_rfl) (fun w' x_ => xload1 Tryz.isAgg24 rfl ((RO_b6.cells).ext x_) rfl) rfl rfl rfl F ?_
 refine h_take 4 rfl (by kernel_rfl) (by kernel_rfl) (by kernel_rfl) (fun w' x_ => xfieldAddr fo32f1 rfl) rfl rfl rfl F ?_
 refine h_take 5 (v := .slice q43_2 m43_2 d43_2) rfl (by kernel_rfl) (by kernel_rfl) (by kernel_rfl) (fun w' x_ => xload1 Tryz.isAgg24 rfl ((RO_b6.cells).ext x_) rfl) rfl rfl rfl F ?_
 refine h_ready (rs := [0]) (by kernel_rfl) (by decide) ⟨?_, trivial⟩
 refine hs_build (len := 0) (vs := []) (cs := []) (sz := 1) Tryz.underlying24 inf2 rfl rfl (by decide) (by rfl) (by rfl) (by simp [Value.cells]) rfl F rfl rfl rfl ?_
 intro b23 w23 e23 hb23 hz23 O23
 have E := E.trans e23
 replace F35_1 := F35_1.ext e23
 replace F43_1 := F43_1.ext e23
 replace F43_2 := F43_2.ext e23
 replace O_b12 := O_b12.ext e23
 replace O_b3 := O_b3.ext e23
 replace O_b6 := O_b6.ext e23
 replace O_b9 := O_b9.ext e23
 replace OX := OX.ext e23
 have G23 : Ow i64c 1 2 w23 b23 (b23 + 1) (some ⟨b23, 0, none⟩) 0 0 ([] : List Int) := Own.ow (by simpa [i64c] using O23) rfl (by omega) (Nat.le_refl _) (by omega) (by intro x hx; rfl)
 have F := F.trans e23
 refine h_ready (rs := [3]) (by kernel_rfl) (by decide) ⟨?_, trivial⟩
 refine hs_appT (bytes := 8) (nm := m43_1) G23 (by rfl) (by rfl) elem2 (F43_1.sl) (F43_1.sl).nil (by intro y hy; rfl) (by intro y hy u hu; simp only [i64c, List.mem_singleton] at hu; subst hu; rfl) (by omega) (by omega) (by omega) (by omega) F (by omega) rfl rfl rfl ?_
 intro p24 c24_ w24 m24 k24 G24
 have hz24 := m24.size
 have E := m24.toExt E (by omega)
 have F := m24.toExt F (by omega)
 replace F35_1 := F35_1.off m24 (by omega)
 replace F43_1 := F43_1.off m24 (by omega)
 replace F43_2 := F43_2.off m24 (by omega)
 replace O_b12 := k24 _ _ _ (by decide) O_b12
 replace O_b3 := k24 _ _ _ (by decide) O_b3
 replace O_b6 := k24 _ _ _ (by decide) O_b6
 replace O_b9 := k24 _ _ _ (by decide) O_b9
 replace OX := k24 _ _ _ (by decide) OX
 refine h_ready (rs := [6]) (by kernel_rfl) (by decide) ⟨?_, trivial⟩
 refine hs_appT (bytes := 8) (nm := (m43_1 + m43_2)) G24 (by rfl) (by rfl) elem2 (F43_2.sl) (F43_2.sl).nil (by intro y hy; rfl) (by intro y hy u hu; simp only [i64c, List.mem_singleton] at hu; subst hu; rfl) (by omega) (by omega) (by omega) (by omega) F (by omega) rfl rfl rfl ?_
 intro p25 c25_ w25 m25 k25 G25
 have hz25 := m25.size
 have E := m25.toExt E (by omega)
 have F := m25.toExt F (by omega)
 replace F35_1 := F35_1.off m25 (by omega)
 replace F43_1 := F43_1.off m25 (by omega)
 replace F43_2 := F43_2.off m25 (by omega)
 replace O_b12 := k25 _ _ _ (by decide) O_b12
 replace O_b3 := k25 _ _ _ (by decide) O_b3
 replace O_b6 := k25 _ _ _ (by decide) O_b6
 replace O_b9 := k25 _ _ _ (by decide) O_b9
 replace OX := k25 _ _ _ (by decide) OX
 refine h_take 7 rfl (by kernel_rfl) (by kernel_rfl) (by kernel_rfl) (fun w' x_ => xassign rfl) rfl rfl rfl F ?_
 refine h_doneC (by kernel_rfl) ?_
 refine run_seq ?_
 refine sr_ ?_
 refine vn_ rfl rfl rfl ?_
 refine run_block ?_
 refine run_loop (ι := Nat × Option Addr × Nat × Nat × World) (fun x_ => match x_ with | (i, qg, mg, dg, wr) => (Ext w wr) ∧ (Own wr b12 ([.int .i64 nd55, .slice p55 n55 k55]) 38) ∧ (Own wr b3 ([.int .i64 r35.C, .int .i64 r35.St, .int .i64 r35.Sa, .slice q35_1 m35_1 d35_1, .int .i64 r35.Se, .slice q35_2 m35_2 d35_2, .slice q35_3 m35_3 d35_3, .int .i64 r35.Me, .int .i64 r35.Al]) 26) ∧ (Own wr b6 ([.slice q43_1 m43_1 d43_1, .slice q43_2 m43_2 d43_2, .slice q43_3 m43_3 d43_3]) 32) ∧ (Own wr b9 ([.slice q50_1 m50_1 d50_1, .slice q50_2 m50_2 d50_2, .slice q50_3 m50_3 d50_3]) 32) ∧ (Own wr bx ([.slice q43_1 m43_1 d43_1, .slice q43_2 m43_2 d43_2, .slice qo mo do_]) 32) ∧ (Ow i64c 1 2 wr w.heap.size wr.heap.size qg mg dg ([] ++ (replayR r35 ts35 ps35).1.S ++ (replayR r35 ts35 ps35).1.A)) ∧ (SlF i64c 1 wr w1.heap.size w2.heap.size q35_1 m35_1 d35_1 r35.N) ∧ (SlF i64c 1 wr w4.heap.size w5.heap.size q43_1 m43_1 d43_1 (replayR r35 ts35 ps35).1.S) ∧ (SlF i64c 1 wr w4.heap.size w5.heap.size q43_2 m43_2 d43_2 (replayR r35 ts35 ps35).1.A) ∧ (w25.heap.size ≤ wr.heap.size) ∧ (i ≤ mg)) (fun x_ => match x_ with | (i, qg, mg, dg, wr) => [(3, .pointer (some ⟨b3, 0, none⟩)), (6, .pointer (some ⟨b6, 0, none⟩)), (29, .slice qg mg dg), (30, .int .i64 (i : Int))]) (fun x_ => match x_ with | (i, qg, mg, dg, wr) => wr) (fun x_ => match x_ with | (i, qg, mg, dg, wr) => mg - i) ?_ (0, p25, (m43_1 + m43_2), c25_, w25) (⟨E, O_b12, O_b3, O_b6, O_b9, OX, G25.wide (by omega) (by omega), F35_1, F43_1, F43_2, Nat.le_refl _, Nat.zero_le _⟩) ⟨rfl, rfl, rfl, rfl, trivial⟩ rfl
 intro i_ hI_ hback27
 obtain ⟨i, qg, mg, dg, wr⟩ := i_
 obtain ⟨E, O_b12, O_b3, O_b6, O_b9, O_bx, Gm, F35_1, F43_1, F43_2, lz_wr, hig⟩ := hI_
 try dsimp only
 have zr := E.size
 have lt_b12 := O_b12.lt
 have lt_b3 := O_b3.lt
 have lt_b6 := O_b6.lt
 have lt_b9 := O_b9.lt
 have lt_bx := O_bx.lt
 refine run_seq ?_
 refine sr_ ?_
 refine vm_ rfl rfl rfl ?_
 refine vm_ rfl rfl rfl ?_
 refine oz_ (xlen Tryz.underlying24 rfl) rfl rfl ?_
 refine oz_ (xlss rfl rfl _ rfl) rfl rfl ?_
 refine ods (fun c196 => ?_) (fun c196 => ?_)
 rotate_left
 ·
  refine cg_ rfl ?_
  refine run_exit rfl ?_
  refine sr_ ?_
  refine oz_ (xfieldAddr fo32f0 rfl) rfl rfl ?_
  refine oz_ (v := .slice q43_1 m43_1 d43_1) (xload1 Tryz.isAgg24 rfl (O_b6.cells) rfl) rfl rfl ?_
  refine oz_ (xlen Tryz.underlying24 rfl) rfl rfl ?_
  refine oz_ (xfieldAddr fo26f7 rfl) rfl rfl ?_
  refine oz_ (v := .int .i64 r35.Me) (xload1 Tryz.isAgg2 rfl (O_b3.cells) rfl) rfl rfl ?_
  refine oz_ (xeql rfl rfl _ rfl) rfl rfl ?_
  refine ods (fun c212 => ?_) (fun c212 => ?_)
  rotate_left
  ·
   exfalso; omega
  refine vm_ rfl rfl rfl ?_
  refine oz_ (xfieldAddr fo32f1 rfl) rfl rfl ?_
  refine oz_ (v := .slice q43_2 m43_2 d43_2) (xload1 Tryz.isAgg24 rfl (O_b6.cells) rfl) rfl rfl ?_
  refine oz_ (xlen Tryz.underlying24 rfl) rfl rfl ?_
  refine oz_ (xfieldAddr fo26f8 rfl) rfl rfl ?_
  refine oz_ (v := .int .i64 r35.Al) (xload1 Tryz.isAgg2 rfl (O_b3.cells) rfl) rfl rfl ?_
  refine oz_ (xeql rfl rfl _ rfl) rfl rfl ?_
  refine oz_ (xpick_t rfl rfl) rfl rfl ?_
  refine vn_ rfl rfl rfl ?_
  refine run_ret Tryz.func3 (res1 rfl rfl) ?_
  exact ⟨_, rfl, congrArg Value.bool (decide_eq_true (by omega)), E⟩
 have lQm := Gm.len
 have lQn := Gm.len
 simp only [List.length_append, List.length_nil] at lQn
 refine ct_ rfl ?_
 refine run_skip ?_
 refine run_seq ?_
 refine run_block ?_
 refine run_seq ?_
 refine run_draw (by kernel_rfl) (by kernel_rfl) ?_
 refine qv (fun w' x_ => xfieldAddr fo26f3 rfl) rfl rfl rfl ?_
 refine qv (v := .slice q35_1 m35_1 d35_1) (fun w' x_ => xload1 Tryz.isAgg24 rfl ((O_b3.cells).ext x_) rfl) rfl rfl rfl ?_
 refine qv (fun w' x_ => xmove rfl) rfl rfl rfl ?_
 refine qv (fun w' x_ => xmove rfl) rfl rfl rfl ?_
 have h203 := (Gm.sl).at (i := i) (by omega)
 refine qv (fun w' x_ => xindexN (i := i) Tryz.underlying24 Tryz.sizeOf2 rfl rfl rfl ((Gm.sl).p (i := i) (by omega)) (by have := (Gm.sl).len; omega)) rfl rfl rfl ?_
 refine qv (v := .int .i64 (([] ++ (replayR r35 ts35 ps35).1.S ++ (replayR r35 ts35 ps35).1.A)[i])) (fun w' x_ => xloadz Tryz.isAgg2 rfl ((h203).ext x_) rfl) rfl rfl rfl ?_
 have t205 := fun (w' : World) (x_ : Ext wr w') => Ret.q (w := w') (hasIntE_ok _ _ _ _ (([] ++ (replayR r35 ts35 ps35).1.S ++ (replayR r35 ts35 ps35).1.A)[i]) _ ((F35_1.sl).ext x_))
 refine qc (fun w' => xcall Tryz.call15 rfl) rfl rfl rfl t205 ?_
 clear t205
 refine qbs (fun c205 => ?_) (fun c205 => ?_)
 rotate_left
 ·
  exfalso; rw [mem_in rz5] at c205; cases c205
 refine qv (fun w' x_ => xnot rfl) rfl rfl rfl ?_
 refine q_nil ?_
 intro w26 e26
 have z26 := e26.size
 have E := E.trans e26
 replace Gm := Gm.ext e26
 replace F35_1 := F35_1.ext e26
 replace F43_1 := F43_1.ext e26
 replace F43_2 := F43_2.ext e26
 replace O_b12 := O_b12.ext e26
 replace O_b3 := O_b3.ext e26
 replace O_b6 := O_b6.ext e26
 replace O_b9 := O_b9.ext e26
 replace O_bx := O_bx.ext e26
 refine run_cond_f rfl ?_
 refine run_skip ?_
 refine run_inBlock ?_
 refine run_region ?_
 refine vm_ rfl rfl rfl ?_
 refine oz_ (xadd rfl rfl (by unfold I64; omega)) rfl rfl ?_
 refine vn_ rfl rfl rfl ?_
 refine run_sub ?_ (hback27 (i + 1, qg, mg, dg, w26) (⟨E, O_b12, O_b3, O_b6, O_b9, O_bx, Gm.wide (by omega) (by omega), F35_1, F43_1, F43_2, by omega, by omega⟩) (by first | omega | (dsimp only; omega)))
 exact ⟨rfl, rfl, rfl, rfl, trivial⟩
end Go.Proofs.YtchblgaklknkcaaGreat
