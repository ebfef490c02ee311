/-
  The law on the days of holders: the walk. No condition beyond those written in each theorem.
-/
import Derived.Test.YtnjohcbamblilaaTxtLaw
namespace Go.Proofs.Ytnjohcbamblilaa
open Go.RowKit
set_option linter.unusedVariables false
set_option linter.unusedSimpArgs false
set_option linter.unusedSectionVars false
set_option maxRecDepth 4000

/-- over the texts that are not among those seen -/
def dsm (f : ByteArray → Int) : List ByteArray → List ByteArray → Int
  | _, [] => 0
  | sn, y :: r => (if hasS sn y = true then 0 else f y) + dsm f (sn ++ [y]) r
theorem dsm_app (f : ByteArray → Int) : ∀ (l sn : List ByteArray) (y : ByteArray), dsm f sn (l ++ [y]) = dsm f sn l + (if hasS (sn ++ l) y = true then 0 else f y)
  | [], sn, y => by simp [dsm]
  | x :: r, sn, y => by
    rw [List.cons_append, dsm, dsm_app f r (sn ++ [x]) y, dsm, List.append_assoc, List.singleton_append]; omega
theorem dsm_add (f g : ByteArray → Int) : ∀ (l sn : List ByteArray), dsm (fun y => f y + g y) sn l = dsm f sn l + dsm g sn l
  | [], sn => by simp [dsm]
  | x :: r, sn => by
    rw [dsm, dsm_add f g r, dsm, dsm]
    split <;> omega
theorem dsm_ind0 (h : ByteArray) : ∀ (l sn : List ByteArray), (h ∈ sn ∨ ¬ h ∈ l) → dsm (fun y => if h = y then 1 else 0) sn l = 0
  | [], sn, _ => rfl
  | x :: r, sn, k => by
    rw [dsm, dsm_ind0 h r (sn ++ [x]) (k.imp (fun k => List.mem_append_left _ k) (fun k k2 => k (List.mem_cons_of_mem _ k2)))]
    by_cases e : h = x
    · subst e
      rw [if_pos (hasS_iff.2 (k.resolve_right (fun k => k List.mem_cons_self)))]; rfl
    · rw [if_neg e]; split <;> rfl
theorem dsm_ind (h : ByteArray) : ∀ (l sn : List ByteArray), h ∈ l → ¬ h ∈ sn → dsm (fun y => if h = y then 1 else 0) sn l = 1
  | x :: r, sn, k, k2 => by
    rw [dsm]
    by_cases e : h = x
    · subst e
      rw [if_neg (fun k => k2 (hasS_iff.1 k)), if_pos rfl, dsm_ind0 h r _ (.inl (List.mem_append_right _ List.mem_cons_self))]; rfl
    · rw [if_neg e, dsm_ind h r (sn ++ [x]) ((List.mem_cons.1 k).resolve_left e) (fun m => (List.mem_append.1 m).elim k2 (fun m => e (List.mem_singleton.1 m)))]
      split <;> rfl
theorem dsm_zero : ∀ (l sn : List ByteArray), dsm (fun _ => 0) sn l = 0
  | [], sn => rfl
  | x :: r, sn => by rw [dsm, dsm_zero r]; split <;> rfl
theorem dsm_days (x : Exhibit) (L : List ByteArray) : ∀ k : Nat, (∀ j, j < k → hold x (past x (x.Day + j - 1)) ∈ L) → dsm (fun y => dcount x y k) [] L = k
  | 0, _ => dsm_zero L []
  | k + 1, h => by
    have e : (fun y => dcount x y (k + 1)) = fun y => dcount x y k + (if hold x (past x (x.Day + k - 1)) = y then 1 else 0) := by
      funext y
      rw [dcount]
      split <;> omega
    rw [e, dsm_add, dsm_days x L k (fun j hj => h j (by omega)), dsm_ind _ _ _ (h k (by omega)) (by simp)]
    omega
theorem hold_mem (x : Exhibit) {p : Nat} (h : p ≤ x.Chain.length) : hold x p ∈ hs x (x.Chain.length + 1) :=
  List.mem_map.2 ⟨p, List.mem_range.2 (by omega), rfl⟩
theorem days_ok {x : Exhibit} {who : ByteArray} {till : Int} (h : (daysHeld x who till).2 = 0) :
    holdersOf x = (hs x (x.Chain.length + 1), 0) ∧ (∀ y, daysHeld x y till = (dcount x y (till - x.Day).toNat, 0)) ∧ isExhibit x = true ∧ 0 ≤ till ∧ till ≤ 20000 := by
  unfold daysHeld at h
  by_cases h1 : isExhibit x = false
  · rw [if_pos h1] at h; cases h
  · rw [if_neg h1] at h
    by_cases h2 : inR 0 20000 till = false
    · rw [if_pos h2] at h; cases h
    · rw [if_neg h2] at h
      by_cases h3 : brk x ≠ x.Chain.length
      · rw [if_pos h3] at h; cases h
      · have h4 := inR_iff.1 (by simpa using h2 : inR 0 20000 till = true)
        exact ⟨by rw [holdersOf, if_neg h1, if_neg h3], fun y => by rw [daysHeld, if_neg h1, if_neg h2, if_neg h3], by simpa using h1, h4.1, h4.2⟩
/-- the days of all holders are all days -/
theorem days_all {x : Exhibit} {till : Int} : dsm (fun y => dcount x y (till - x.Day).toNat) [] (hs x (x.Chain.length + 1)) = max 0 (till - x.Day) := by
  rw [dsm_days x _ _ (fun j _ => hold_mem x (past_le _ _))]
  omega


set_option maxHeartbeats 8000000 in
theorem FnDaysHeld_ok (p : Option Addr) (n c : Nat) (bs : List Int) (w : World) (H : Sl u8c 1 w p n c bs) (hbs : ∀ x ∈ bs, 0 ≤ x ∧ x ≤ 255) : Ret Try.prog 9 [.slice p n c] w (Pv w (.bool true)) := by
  refine ret_of_run (N := 107) Try.func9 rfl rfl rfl ?_
  have hn := H.len
  have E : Ext w w := Ext.refl w
  refine run_seq ?_
  refine run_region ?_
  refine ov (xassign rfl) rfl rfl rfl ?_
  refine ops_nil ?_
  refine run_seq ?_
  refine run_seq ?_
  refine run_region ?_
  refine ov (xmove rfl) rfl rfl rfl ?_
  refine oc (xcall Try.call44 rfl) rfl rfl rfl (big_ok _ _ _ _ _ (H.ext E)) ?_
  rintro _ w1 ⟨rfl, e1⟩
  have z1 := e1.size
  have E := E.trans e1
  refine obs (fun c19 => ?_) (fun c19 => ?_)
  ·
    refine ops_nil ?_
    refine run_cond_t rfl ?_
    refine run_seq ?_
    refine run_region ?_
    refine ov (xassign rfl) rfl rfl rfl ?_
    refine ops_nil ?_
    refine run_ret Try.func9 (res1 rfl rfl) ?_
    exact ⟨_, rfl, rfl, E⟩
  ·
    refine ops_nil ?_
    refine run_cond_f rfl ?_
    refine run_skip ?_
    refine run_seq ?_
    refine run_region ?_
    refine ov (xmove rfl) rfl rfl rfl ?_
    refine oc (xcall Try.call45 rfl) rfl rfl rfl (DrawDaysHeld_ok _ _ _ _ _ (H.ext E) (by assumption)) ?_
    rintro _ w2 ⟨e2, x22, q22, m22, d22, s22, k22, rfl, ok22, hm22, G22, hk22⟩
    have z2 := e2.size
    have E := E.trans e2
    have lG22 := G22.len
    have sm22 := exOk_small ok22
    have xd22 := ok22.2.2.1
    refine ov (xmove rfl) rfl rfl rfl ?_
    refine ov (xextract rfl rfl) rfl rfl rfl ?_
    refine ov (xextract rfl rfl) rfl rfl rfl ?_
    refine ov (xextract rfl rfl) rfl rfl rfl ?_
    refine oalloc Try.zeroValue49 rfl rfl ?_
    intro b3 w3 e3 hb3 hz3 O3
    have E := E.trans e3
    replace G22 := G22.ext e3
    replace O3 : Own w3 b3 [.string ⟨#[]⟩, .string ⟨#[]⟩, .int .i64 0, .int .i64 0, .slice none 0 0] 49 := O3
    refine ostoreN (vs := _) Try.sizeOf49 rfl rfl O3 rfl (by simp) (by simp [Value.oneCell']) rfl ?_
    intro w4 on4 O4
    have hz4 := on4.size
    have E := on4.ext E (by omega)
    replace G22 := G22.only on4 (by omega)
    replace O4 : Own w4 b3 [.string x22.Code, .string x22.Found, .int .i64 x22.Day, .int .i64 x22.Seal, .slice q22 m22 d22] 49 := O4
    refine ov (xassign rfl) rfl rfl rfl ?_
    refine ov (xassign rfl) rfl rfl rfl ?_
    refine ops_nil ?_
    refine run_seq ?_
    refine run_region ?_
    refine ov (v := .agg #[.string x22.Code, .string x22.Found, .int .i64 x22.Day, .int .i64 x22.Seal, .slice q22 m22 d22]) (xloadN Try.isAgg49 Try.sizeOf49 rfl (O4.cells) rfl) rfl rfl rfl ?_
    refine ov (xmove rfl) rfl rfl rfl ?_
    refine ov (xmove rfl) rfl rfl rfl ?_
    refine oc (xcall Try.call37 rfl) rfl rfl rfl (DaysHeld_ok _ _ _ x22 _ (G22.sl) sm22 s22 k22) ?_
    rintro _ w5 ⟨rfl, e5⟩
    have z5 := e5.size
    have E := E.trans e5
    replace G22 := G22.ext e5
    replace O4 := O4.ext e5
    refine ov (xmove rfl) rfl rfl rfl ?_
    refine ov (xextract rfl rfl) rfl rfl rfl ?_
    refine ov (xextract rfl rfl) rfl rfl rfl ?_
    refine ov (xassign rfl) rfl rfl rfl ?_
    refine ov (xassign rfl) rfl rfl rfl ?_
    refine ops_nil ?_
    refine run_seq ?_
    refine run_region ?_
    refine ov (v := .agg #[.string x22.Code, .string x22.Found, .int .i64 x22.Day, .int .i64 x22.Seal, .slice q22 m22 d22]) (xloadN Try.isAgg49 Try.sizeOf49 rfl (O4.cells) rfl) rfl rfl rfl ?_
    refine ov (xmove rfl) rfl rfl rfl ?_
    refine ov (xmove rfl) rfl rfl rfl ?_
    refine oc (xcall Try.call36 rfl) rfl rfl rfl (sDaysHeld_ok _ _ _ x22 _ (G22.sl) sm22 s22 k22) ?_
    rintro _ w6 ⟨rfl, e6⟩
    have z6 := e6.size
    have E := E.trans e6
    replace G22 := G22.ext e6
    replace O4 := O4.ext e6
    refine ov (xmove rfl) rfl rfl rfl ?_
    refine ov (xextract rfl rfl) rfl rfl rfl ?_
    refine ov (xextract rfl rfl) rfl rfl rfl ?_
    refine ov (xassign rfl) rfl rfl rfl ?_
    refine ov (xassign rfl) rfl rfl rfl ?_
    refine ops_nil ?_
    refine run_seq ?_
    refine run_seq ?_
    refine run_region ?_
    refine ov (xmove rfl) rfl rfl rfl ?_
    refine ov (xmove rfl) rfl rfl rfl ?_
    refine ov (xneq rfl rfl _ rfl) rfl rfl rfl ?_
    refine ods (fun c42 => ?_) (fun c42 => ?_)
    · exfalso; exact absurd rfl c42
    ·
      refine ov (xmove rfl) rfl rfl rfl ?_
      refine ov (xmove rfl) rfl rfl rfl ?_
      refine ov (xmove rfl) rfl rfl rfl ?_
      refine ov (xneq rfl rfl _ rfl) rfl rfl rfl ?_
      refine ods (fun c46 => ?_) (fun c46 => ?_)
      · exfalso; exact absurd rfl c46
      ·
        refine ov (xpick_f rfl rfl) rfl rfl rfl ?_
        refine ops_nil ?_
        refine run_cond_f rfl ?_
        refine run_skip ?_
        refine run_seq ?_
        refine run_seq ?_
        refine run_region ?_
        refine ov (xmove rfl) rfl rfl rfl ?_
        refine ov (xneq rfl rfl _ rfl) rfl rfl rfl ?_
        refine ods (fun c49 => ?_) (fun c49 => ?_)
        ·
          refine ops_nil ?_
          refine run_cond_t rfl ?_
          refine run_seq ?_
          refine run_region ?_
          refine ov (xassign rfl) rfl rfl rfl ?_
          refine ops_nil ?_
          refine run_ret Try.func9 (res1 rfl rfl) ?_
          exact ⟨_, rfl, rfl, E⟩
        ·
          obtain ⟨hh1, hh2, hh3, hh4, hh5⟩ := days_ok (by omega : (daysHeld x22 s22 k22).2 = 0)
          have hh6 : (holdersOf x22).2 = 0 := by rw [hh1]
          refine ops_nil ?_
          refine run_cond_f rfl ?_
          refine run_skip ?_
          refine run_seq ?_
          refine run_region ?_
          refine ov (v := .agg #[.string x22.Code, .string x22.Found, .int .i64 x22.Day, .int .i64 x22.Seal, .slice q22 m22 d22]) (xloadN Try.isAgg49 Try.sizeOf49 rfl (O4.cells) rfl) rfl rfl rfl ?_
          refine oc (xcall Try.call46 rfl) rfl rfl rfl (HoldersOf_ok _ _ _ x22 _ (G22.sl) sm22) ?_
          rintro _ w7 ⟨e7, q52_0, m52_0, d52_0, rfl, G52_0⟩
          have z7 := e7.size
          have E := E.trans e7
          replace G22 := G22.ext e7
          replace O4 := O4.ext e7
          have lG52_0 := G52_0.len
          have hal52 := holdersOf_len x22
          refine ov (xmove rfl) rfl rfl rfl ?_
          refine ov (xextract rfl rfl) rfl rfl rfl ?_
          refine ov (xextract rfl rfl) rfl rfl rfl ?_
          refine ov (xassign rfl) rfl rfl rfl ?_
          refine ov (xassign rfl) rfl rfl rfl ?_
          refine ops_nil ?_
          refine run_seq ?_
          refine run_region ?_
          refine ov (v := .agg #[.string x22.Code, .string x22.Found, .int .i64 x22.Day, .int .i64 x22.Seal, .slice q22 m22 d22]) (xloadN Try.isAgg49 Try.sizeOf49 rfl (O4.cells) rfl) rfl rfl rfl ?_
          refine oc (xcall Try.call47 rfl) rfl rfl rfl (sHoldersOf_ok _ _ _ x22 _ (G22.sl) sm22) ?_
          rintro _ w8 ⟨e8, q57_0, m57_0, d57_0, rfl, G57_0⟩
          have z8 := e8.size
          have E := E.trans e8
          replace G22 := G22.ext e8
          replace G52_0 := G52_0.ext e8
          replace O4 := O4.ext e8
          have lG57_0 := G57_0.len
          have hal57 := holdersOf_len x22
          refine ov (xmove rfl) rfl rfl rfl ?_
          refine ov (xextract rfl rfl) rfl rfl rfl ?_
          refine ov (xextract rfl rfl) rfl rfl rfl ?_
          refine ov (xassign rfl) rfl rfl rfl ?_
          refine ov (xassign rfl) rfl rfl rfl ?_
          refine ops_nil ?_
          refine run_seq ?_
          refine run_seq ?_
          refine run_region ?_
          refine ov (xmove rfl) rfl rfl rfl ?_
          refine ov (xmove rfl) rfl rfl rfl ?_
          refine ov (xneq rfl rfl _ rfl) rfl rfl rfl ?_
          refine ods (fun c62 => ?_) (fun c62 => ?_)
          · exfalso; exact absurd rfl c62
          ·
            refine ov (xmove rfl) rfl rfl rfl ?_
            refine ov (xmove rfl) rfl rfl rfl ?_
            refine ov (xmove rfl) rfl rfl rfl ?_
            refine oc (xcall Try.call48 rfl) rfl rfl rfl (likeTexts_ok _ _ _ _ _ _ _ _ (G52_0.sl) (G57_0.sl)) ?_
            rintro _ w9 ⟨rfl, e9⟩
            have z9 := e9.size
            have E := E.trans e9
            replace G22 := G22.ext e9
            replace G52_0 := G52_0.ext e9
            replace G57_0 := G57_0.ext e9
            replace O4 := O4.ext e9
            refine obs (fun c66 => ?_) (fun c66 => ?_)
            ·
              refine ov (xnot rfl) rfl rfl rfl ?_
              refine ov (xpick_f rfl rfl) rfl rfl rfl ?_
              refine ops_nil ?_
              refine run_cond_f rfl ?_
              refine run_skip ?_
              refine run_seq ?_
              refine run_seq ?_
              refine run_region ?_
              refine ov (xmove rfl) rfl rfl rfl ?_
              refine ov (xneq rfl rfl _ rfl) rfl rfl rfl ?_
              refine ods (fun c70 => ?_) (fun c70 => ?_)
              · exfalso; omega
              ·
                refine ops_nil ?_
                refine run_cond_f rfl ?_
                refine run_skip ?_
                refine run_seq ?_
                refine run_region ?_
                refine ov (xassign rfl) rfl rfl rfl ?_
                refine ops_nil ?_
                refine run_seq ?_
                refine run_seq ?_
                refine run_region ?_
                refine ov (xassign rfl) rfl rfl rfl ?_
                refine ops_nil ?_
                refine run_block ?_
                refine run_loop (ι := Nat × Int × World) (fun x_ => match x_ with | (i, al, wr) => (Ext w wr) ∧ (Own wr b3 ([.string x22.Code, .string x22.Found, .int .i64 x22.Day, .int .i64 x22.Seal, .slice q22 m22 d22]) 49) ∧ (Ow Handing.cells 4 77 wr w1.heap.size w2.heap.size q22 m22 d22 x22.Chain) ∧ (Ow strc 1 9 wr w6.heap.size w7.heap.size q52_0 m52_0 d52_0 (holdersOf x22).1) ∧ (w9.heap.size ≤ wr.heap.size) ∧ (i ≤ m52_0) ∧ (al = dsm (fun y => dcount x22 y (k22 - x22.Day).toNat) [] ((holdersOf x22).1.take i)) ∧ (0 ≤ al ∧ al ≤ i * 100000)) (fun x_ => match x_ with | (i, al, wr) => [(3, .pointer (some ⟨b3, 0, none⟩)), (5, .int .i64 k22), (10, .slice q52_0 m52_0 d52_0), (14, .int .i64 al), (15, .int .i64 (i : Int))]) (fun x_ => match x_ with | (i, al, wr) => wr) (fun x_ => match x_ with | (i, al, wr) => m52_0 - i) ?_ (0, 0, w9) (⟨E, O4, G22, G52_0, Nat.le_refl _, by omega, rfl, by omega⟩) ⟨rfl, rfl, rfl, rfl, rfl, trivial⟩ rfl
                intro i_ hI_ hback18
                obtain ⟨i, al, wr⟩ := i_
                obtain ⟨E, O_b3, G22, G52_0, lz_wr, hi, hal, hab⟩ := hI_
                try dsimp only
                have zr := E.size
                have lt_b3 := O_b3.lt
                refine run_seq ?_
                refine run_seq ?_
                refine run_region ?_
                refine ov (xmove rfl) rfl rfl rfl ?_
                refine ov (xmove rfl) rfl rfl rfl ?_
                refine ov (xlen Try.underlying66 rfl) rfl rfl rfl ?_
                refine ov (xlss rfl rfl _ rfl) rfl rfl rfl ?_
                refine ods (fun c74 => ?_) (fun c74 => ?_)
                ·
                  have hdi := dcount_le x22 (holdersOf x22).1[i] (k22 - x22.Day).toNat
                  have hdv := hh2 (holdersOf x22).1[i]
                  have hdv1 : (daysHeld x22 (holdersOf x22).1[i] k22).1 = dcount x22 (holdersOf x22).1[i] (k22 - x22.Day).toNat := by rw [hdv]
                  have hdv2 : (daysHeld x22 (holdersOf x22).1[i] k22).2 = 0 := by rw [hdv]
                  refine ops_nil ?_
                  refine run_cond_t rfl ?_
                  refine run_skip ?_
                  refine run_seq ?_
                  refine run_block ?_
                  refine run_seq ?_
                  refine run_seq ?_
                  refine run_draw (by kernel_rfl) (by kernel_rfl) ?_
                  refine qv (fun w' x_ => xmove rfl) rfl rfl rfl ?_
                  refine qv (fun w' x_ => xmove rfl) rfl rfl rfl ?_
                  refine qv (fun w' x_ => xslice_h (k := i) Try.underlying66 Try.sizeOf9 rfl rfl rfl (by have := (G52_0.sl).cap; omega)) rfl rfl rfl ?_
                  refine qv (fun w' x_ => xmove rfl) rfl rfl rfl ?_
                  refine qv (fun w' x_ => xmove rfl) rfl rfl rfl ?_
                  have h82 := (G52_0.sl).at (i := i) (by omega)
                  refine qv (fun w' x_ => xindexN (i := i) Try.underlying66 Try.sizeOf9 rfl rfl rfl ((G52_0.sl).p (i := i) (by omega)) (by have := (G52_0.sl).len; omega)) rfl rfl rfl ?_
                  refine qv (v := .string (holdersOf x22).1[i]) (fun w' x_ => xloadz Try.isAgg9 rfl ((h82).ext x_) rfl) rfl rfl rfl ?_
                  have t84 := fun (w' : World) (x_ : Ext wr w') => Ret.q (w := w') (hasText_ok _ _ _ _ ((holdersOf x22).1[i]) _ (((G52_0.sl).take (k := i) (by omega)).ext x_))
                  refine qc (fun w' => xcall Try.call49 rfl) rfl rfl rfl t84 ?_
                  clear t84
                  refine qbs (fun c84 => ?_) (fun c84 => ?_)
                  ·
                    refine q_nil ?_
                    intro w10 e10
                    have z10 := e10.size
                    have E := E.trans e10
                    replace G22 := G22.ext e10
                    replace G52_0 := G52_0.ext e10
                    replace O_b3 := O_b3.ext e10
                    refine run_cond_t rfl ?_
                    refine run_exit rfl ?_
                    refine run_region ?_
                    refine ov (xmove rfl) rfl rfl rfl ?_
                    refine ov (xadd rfl rfl (by unfold I64; omega)) rfl rfl rfl ?_
                    refine ov (xassign rfl) rfl rfl rfl ?_
                    refine ops_nil ?_
                    refine run_sub ?_ (hback18 (i + 1, al, w10) (⟨E, O_b3, G22, G52_0, by omega, by omega, by rw [List.take_succ_eq_append_getElem (by omega), dsm_app, List.nil_append, if_pos c84, ← hal]; omega, by omega⟩) (by first | omega | (dsimp only; omega)))
                    exact ⟨rfl, rfl, rfl, rfl, rfl, trivial⟩
                  ·
                    refine q_nil ?_
                    intro w10 e10
                    have z10 := e10.size
                    have E := E.trans e10
                    replace G22 := G22.ext e10
                    replace G52_0 := G52_0.ext e10
                    replace O_b3 := O_b3.ext e10
                    refine run_cond_f rfl ?_
                    refine run_skip ?_
                    refine run_seq ?_
                    refine run_draw (by kernel_rfl) (by kernel_rfl) ?_
                    refine qv (v := .agg #[.string x22.Code, .string x22.Found, .int .i64 x22.Day, .int .i64 x22.Seal, .slice q22 m22 d22]) (fun w' x_ => xloadN Try.isAgg49 Try.sizeOf49 rfl ((O_b3.cells).ext x_) rfl) rfl rfl rfl ?_
                    refine qv (fun w' x_ => xmove rfl) rfl rfl rfl ?_
                    refine qv (fun w' x_ => xmove rfl) rfl rfl rfl ?_
                    have h89 := (G52_0.sl).at (i := i) (by omega)
                    refine qv (fun w' x_ => xindexN (i := i) Try.underlying66 Try.sizeOf9 rfl rfl rfl ((G52_0.sl).p (i := i) (by omega)) (by have := (G52_0.sl).len; omega)) rfl rfl rfl ?_
                    refine qv (v := .string (holdersOf x22).1[i]) (fun w' x_ => xloadz Try.isAgg9 rfl ((h89).ext x_) rfl) rfl rfl rfl ?_
                    refine qv (fun w' x_ => xmove rfl) rfl rfl rfl ?_
                    have t92 := fun (w' : World) (x_ : Ext w10 w') => Ret.q (w := w') (DaysHeld_ok _ _ _ x22 _ ((G22.sl).ext x_) sm22 (holdersOf x22).1[i] k22)
                    refine qc (fun w' => xcall Try.call37 rfl) rfl rfl rfl t92 ?_
                    clear t92
                    refine qv (fun w' x_ => xmove rfl) rfl rfl rfl ?_
                    refine qv (fun w' x_ => xextract rfl rfl) rfl rfl rfl ?_
                    refine qv (fun w' x_ => xextract rfl rfl) rfl rfl rfl ?_
                    refine qv (fun w' x_ => xassign rfl) rfl rfl rfl ?_
                    refine qv (fun w' x_ => xassign rfl) rfl rfl rfl ?_
                    refine q_nil ?_
                    intro w11 e11
                    have z11 := e11.size
                    have E := E.trans e11
                    replace G22 := G22.ext e11
                    replace G52_0 := G52_0.ext e11
                    replace O_b3 := O_b3.ext e11
                    refine run_seq ?_
                    refine run_seq ?_
                    refine run_region ?_
                    refine ov (xmove rfl) rfl rfl rfl ?_
                    refine ov (xneq rfl rfl _ rfl) rfl rfl rfl ?_
                    refine ods (fun c96 => ?_) (fun c96 => ?_)
                    · exfalso; omega
                    ·
                      refine ops_nil ?_
                      refine run_cond_f rfl ?_
                      refine run_skip ?_
                      refine run_region ?_
                      refine ov (xmove rfl) rfl rfl rfl ?_
                      refine ov (xmove rfl) rfl rfl rfl ?_
                      refine ov (xadd rfl rfl (by unfold I64; omega)) rfl rfl rfl ?_
                      refine ov (xassign rfl) rfl rfl rfl ?_
                      refine ops_nil ?_
                      refine run_inBlock ?_
                      refine run_region ?_
                      refine ov (xmove rfl) rfl rfl rfl ?_
                      refine ov (xadd rfl rfl (by unfold I64; omega)) rfl rfl rfl ?_
                      refine ov (xassign rfl) rfl rfl rfl ?_
                      refine ops_nil ?_
                      refine run_sub ?_ (hback18 (i + 1, (al + (daysHeld x22 (holdersOf x22).1[i] k22).1), w11) (⟨E, O_b3, G22, G52_0, by omega, by omega, by rw [List.take_succ_eq_append_getElem (by omega), dsm_app, List.nil_append, if_neg (by simp [c84]), ← hal, hdv1], by omega⟩) (by first | omega | (dsimp only; omega)))
                      exact ⟨rfl, rfl, rfl, rfl, rfl, trivial⟩
                ·
                  refine ops_nil ?_
                  refine run_cond_f rfl ?_
                  refine run_exit rfl ?_
                  refine run_seq ?_
                  refine run_region ?_
                  refine ov (xmove rfl) rfl rfl rfl ?_
                  refine ov (xmove rfl) rfl rfl rfl ?_
                  refine ov (xfieldAddr fo49f2 rfl) rfl rfl rfl ?_
                  refine ov (v := .int .i64 x22.Day) (xload1 Try.isAgg2 rfl (O_b3.cells) rfl) rfl rfl rfl ?_
                  refine ov (xsub rfl rfl (by unfold I64; omega)) rfl rfl rfl ?_
                  refine ov (xmax rfl rfl) rfl rfl rfl ?_
                  refine ov (xeql rfl rfl _ rfl) rfl rfl rfl ?_
                  refine ov (xassign rfl) rfl rfl rfl ?_
                  refine ops_nil ?_
                  refine run_ret Try.func9 (res1 rfl rfl) ?_
                  have hta : al = max 0 (k22 - x22.Day) := by rw [hal, List.take_of_length_le (by omega), hh1]; exact days_all
                  exact ⟨_, rfl, congrArg Value.bool (decide_eq_true hta), E⟩
            · exfalso; cases c66
end Go.Proofs.Ytnjohcbamblilaa
