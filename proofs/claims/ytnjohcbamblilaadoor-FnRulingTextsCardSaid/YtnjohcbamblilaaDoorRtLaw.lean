/-
  The law on the texts of rulings. No condition beyond those written in each theorem.
-/
import Derived.Test.YtnjohcbamblilaaDoorRtDraw
namespace Go.Proofs.YtnjohcbamblilaaDoor
open Go.RowKit
set_option linter.unusedVariables false
set_option linter.unusedSimpArgs false
set_option linter.unusedSectionVars false
set_option maxRecDepth 4000

/-- pieces joined by b -/
def joinB (b : UInt8) : List (List UInt8) → List UInt8
  | [] => []
  | [p] => p
  | p :: q :: r => p ++ b :: joinB b (q :: r)
theorem joinB_cons (b c : UInt8) (p : List UInt8) (ps : List (List UInt8)) : joinB b ((c :: p) :: ps) = c :: joinB b (p :: ps) := by
  cases ps with
  | nil => rfl
  | cons q r => rfl
theorem join_cut (b : UInt8) : ∀ l : List UInt8, joinB b (cutB b l) = l
  | [] => rfl
  | c :: r => by
    have ih := join_cut b r
    have hl := (cutB_len b r).1
    rw [cutB]
    split
    · rename_i h
      cases hc : cutB b r with
      | nil => rw [hc] at hl; exact absurd hl (Nat.lt_irrefl 0)
      | cons q rs =>
        rw [hc] at ih
        rw [joinB, ih, h]; rfl
    · split
      · rename_i hc; rw [hc] at hl; exact absurd hl (Nat.lt_irrefl 0)
      · rename_i p ps hc
        rw [hc] at ih
        rw [joinB_cons, ih]
theorem rulText_list (r : Ruling) : (rulText r).data.toList = (dec r.Day.toNat).data.toList ++ 47 :: (r.Code.data.toList ++ 47 :: (kword r.Kind).data.toList) := by
  unfold rulText
  simp only [ByteArray.data_append, Array.toList_append, List.append_assoc]
  rfl
theorem word_no47 {s : ByteArray} (h : isWord s = true) : ∀ c ∈ s.data.toList, c ≠ 47 := by
  intro c hc he
  obtain ⟨i, hi, rfl⟩ := List.mem_iff_getElem.1 hc
  simp only [isWord, Bool.and_eq_true] at h
  have h1 := allB_iff.1 h.1 i hi
  simp only [Bool.and_eq_true, decide_eq_true_eq] at h1
  rw [bAt_list hi, he] at h1
  exact absurd h1.1 (by decide)
theorem dec_no47 (u : Nat) : ∀ c ∈ (dec u).data.toList, c ≠ 47 := by
  intro c hc he
  have e : (dec u).data.toList = Lib.decDigits u := by simp [dec]
  rw [e] at hc
  have hd := (decD_all u u (Nat.le_refl _)).1 c hc
  unfold dig at hd
  rw [he] at hd
  exact absurd hd.1 (by decide)
theorem kword_no47 (n : Int) : ∀ c ∈ (kword n).data.toList, c ≠ 47 := by
  unfold kword pick4
  (repeat' split) <;> decide
theorem ba_mk (s : ByteArray) : (⟨s.data.toList.toArray⟩ : ByteArray) = s := rfl
/-- the text of a ruling is read as that ruling -/
theorem reads_text {r : Ruling} (h : isRuling r = true) : ReadsAs (rulText r) r := by
  refine ⟨h, ?_⟩
  have hw : isWord r.Code = true := by
    simp only [isRuling, Bool.and_eq_true] at h; exact h.1.2
  rw [cutBs, rulText_list, cut_app 47 _ _ (dec_no47 _), cut_app 47 _ _ (word_no47 hw), cut_none 47 _ (kword_no47 _)]
  rfl
/-- what is read has that text -/
theorem text_reads {s : ByteArray} {r : Ruling} (h : ReadsAs s r) : s = rulText r := by
  have h2 := congrArg (List.map (fun b : ByteArray => b.data.toList)) h.2
  have e : (cutBs 47 s).map (fun b : ByteArray => b.data.toList) = cutB 47 s.data.toList := by
    rw [cutBs, List.map_map]
    exact List.map_id' _
  rw [e] at h2
  have j := join_cut 47 s.data.toList
  rw [h2] at j
  have k : (rulText r).data.toList = s.data.toList := by rw [rulText_list, ← j]; rfl
  rw [← ba_mk s, ← k]
theorem readR_zero {s : ByteArray} (h : (readR s).2 = 0) : ReadsAs s (readR s).1 := by
  by_cases hx : ∃ r, ReadsAs s r
  · obtain ⟨r, hr⟩ := hx
    rw [readR_t hr]; exact hr
  · rw [readR_f (fun r hr => hx ⟨r, hr⟩)] at h
    exact absurd h (by decide)
theorem text_back {s : ByteArray} (h : (readR s).2 = 0) : rulingText (readR s).1 = (s, 0) := by
  have hr := readR_zero h
  rw [rt_t hr.1, ← text_reads hr]
theorem ruling_zero {r : Ruling} (h : (rulingText r).2 = 0) : isRuling r = true := by
  cases hr : isRuling r with
  | true => rfl
  | false => rw [rt_f hr] at h; exact absurd h (by decide)
theorem read_back {r : Ruling} (h : (rulingText r).2 = 0) : readR (rulingText r).1 = (r, 0) := by
  have hr := ruling_zero h
  rw [rt_t hr]; exact readR_t (reads_text hr)
theorem RulingText_back (s : ByteArray) (w : World) (h : (readR s).2 = 0) (hT : Tab w) :
    Ret Tryd.prog 9 [.agg #[.int .i64 (readR s).1.Day, .string (readR s).1.Code, .int .i64 (readR s).1.Kind]] w (Pv w (.tuple #[.string s, .int .i64 0])) := by
  have hr := readR_zero h
  obtain ⟨a1, a2, a3, a4, a5⟩ := isR_of hr.1
  have c := RulingText_ok (readR s).1 w (by omega) hT
  rw [text_back h] at c
  exact c
theorem ReadRuling_back (r : Ruling) (w : World) (h : (rulingText r).2 = 0) (hD : Dl w) :
    Ret Tryd.prog 11 [.string (rulingText r).1] w (Pv w (.tuple #[.agg #[.int .i64 r.Day, .string r.Code, .int .i64 r.Kind], .int .i64 0])) := by
  have hr := ruling_zero h
  obtain ⟨a1, a2, a3, a4, a5⟩ := isR_of hr
  have hs : (rulingText r).1.size ≤ 1048576 := by
    rw [rt_t hr]
    have := rulText_size (r := r) (by omega) (by omega)
    show (rulText r).size ≤ _
    omega
  have c := ReadRuling_ok (rulingText r).1 w hs hD
  rw [read_back h] at c
  exact c
theorem eq27 (w : World) (a : Int) (b : ByteArray) (c : Int) : (Op.equalIn 10000 27 (.agg #[.int .i64 a, .string b, .int .i64 c]) (.agg #[.int .i64 a, .string b, .int .i64 c])).run Tryd.prog w = .ok true w := by
  have h1 : Tryd.prog.underlying 27 = some (.struct (Tryd.prog.fieldsOf 27)) := by rw [Program.fieldsOf, Tryd.underlying27]
  rw [run_equalIn_struct w 9999 27 _ _ h1 (by kernel_rfl)]
  simp only [Program.fieldsOf, Tryd.underlying27]
  simp [Op.eqFields, part, run_equalIn_string, run_equalIn_int, Tryd.underlying9, Tryd.underlying2]
theorem xneq27 {N : Nat} {σ : Env} {w : World} {d : Option Tmp} {ty : TypeId} {pos : String} {aft : Array Edge} {gd : Option (Nat × Bool)} {x y : Operand} {u : TypeId} {a : Int} {b : ByteArray} {c : Int}
    (hx : ev σ x = some (.agg #[.int .i64 a, .string b, .int .i64 c])) (hy : ev σ y = some (.agg #[.int .i64 a, .string b, .int .i64 c])) : XV Tryd.prog N σ ⟨d, .binOp .neq 27 x y u, ty, pos, aft, gd⟩ w (.bool (decide (1 = 0))) w := fun e he => by
  simp [execOp, he.eval hx, he.eval hy, run_eqGuard_agg (P := Tryd.prog) w .neq 27 x y _ _ (by kernel_rfl), run_neq_struct, eq27, Result.andThen]


set_option maxHeartbeats 4000000 in
theorem FnRulingTexts_ok (p : Option Addr) (n c : Nat) (bs : List Int) (w : World) (H : Sl u8c 1 w p n c bs) (hbs : ∀ x ∈ bs, 0 ≤ x ∧ x ≤ 255) (hD : Dl w) : Ret Tryd.prog 5 [.slice p n c] w (Pv w (.bool true)) := by
  refine ret_of_run (N := 90) Tryd.func5 rfl rfl rfl ?_
  have hfar := H.blk (fun x => by simp [u8c])
  have hn := H.len
  have E : Ext w w := Ext.refl w
  refine run_seq ?_
  refine run_region ?_
  refine ov (xassign rfl) rfl rfl rfl ?_
  refine ops_nil ?_
  refine run_seq ?_
  refine run_seq ?_
  refine run_region ?_
  refine ov (xmove rfl) rfl rfl rfl ?_
  refine oc (xcall Tryd.call13 rfl) rfl rfl rfl (big_ok _ _ _ _ _ (H.ext E)) ?_
  rintro _ w1 ⟨rfl, e1⟩
  have z1 := e1.size
  have E := E.trans e1
  refine obs (fun c18 => ?_) (fun c18 => ?_)
  ·
    refine ops_nil ?_
    refine run_cond_t rfl ?_
    refine run_seq ?_
    refine run_region ?_
    refine ov (xassign rfl) rfl rfl rfl ?_
    refine ops_nil ?_
    refine run_ret Tryd.func5 (res1 rfl rfl) ?_
    exact ⟨_, rfl, rfl, E⟩
  ·
    refine ops_nil ?_
    refine run_cond_f rfl ?_
    refine run_skip ?_
    refine run_seq ?_
    refine run_region ?_
    refine ov (xmove rfl) rfl rfl rfl ?_
    refine oc (xcall Tryd.call14 rfl) rfl rfl rfl (DrawRulingText_ok _ _ _ _ _ (H.ext E) (by assumption)) ?_
    rintro _ w2 ⟨e2, x20, rfl, hx20⟩
    have z2 := e2.size
    have E := E.trans e2
    refine oalloc Tryd.zeroValue27 rfl rfl ?_
    intro b3 w3 e3 hb3 hz3 O3
    have E := E.trans e3
    replace O3 : Own w3 b3 [.int .i64 0, .string ⟨#[]⟩, .int .i64 0] 27 := O3
    refine ostoreN (vs := _) Tryd.sizeOf27 rfl rfl O3 rfl (by simp) (by simp [Value.oneCell']) rfl ?_
    intro w4 on4 O4
    have hz4 := on4.size
    have E := on4.ext E (by omega)
    replace O4 : Own w4 b3 [.int .i64 x20.Day, .string x20.Code, .int .i64 x20.Kind] 27 := O4
    refine ops_nil ?_
    refine run_seq ?_
    refine run_region ?_
    refine ov (v := .agg #[.int .i64 x20.Day, .string x20.Code, .int .i64 x20.Kind]) (xloadN Tryd.isAgg27 Tryd.sizeOf27 rfl (O4.cells) rfl) rfl rfl rfl ?_
    refine oc (xcall Tryd.call9 rfl) rfl rfl rfl (RulingText_ok x20 _ (by omega) (hD.tab.ext E)) ?_
    rintro _ w5 ⟨rfl, e5⟩
    have z5 := e5.size
    have E := E.trans e5
    replace O4 := O4.ext e5
    refine ov (xmove rfl) rfl rfl rfl ?_
    refine ov (xextract rfl rfl) rfl rfl rfl ?_
    refine ov (xextract rfl rfl) rfl rfl rfl ?_
    refine ov (xassign rfl) rfl rfl rfl ?_
    refine ov (xassign rfl) rfl rfl rfl ?_
    refine ops_nil ?_
    refine run_seq ?_
    refine run_region ?_
    refine ov (v := .agg #[.int .i64 x20.Day, .string x20.Code, .int .i64 x20.Kind]) (xloadN Tryd.isAgg27 Tryd.sizeOf27 rfl (O4.cells) rfl) rfl rfl rfl ?_
    refine oc (xcall Tryd.call7 rfl) rfl rfl rfl (sRulingText_ok x20 _ (by omega)) ?_
    rintro _ w6 ⟨rfl, e6⟩
    have z6 := e6.size
    have E := E.trans e6
    replace O4 := O4.ext e6
    refine ov (xmove rfl) rfl rfl rfl ?_
    refine ov (xextract rfl rfl) rfl rfl rfl ?_
    refine ov (xextract rfl rfl) rfl rfl rfl ?_
    refine ov (xassign rfl) rfl rfl rfl ?_
    refine ov (xassign rfl) rfl rfl rfl ?_
    refine ops_nil ?_
    refine run_seq ?_
    refine run_region ?_
    refine ov (xmove rfl) rfl rfl rfl ?_
    refine oc (xcall Tryd.call15 rfl) rfl rfl rfl (DrawReadRuling_ok _ _ _ _ _ (H.ext E) (by assumption)) ?_
    rintro _ w7 ⟨e7, s32, rfl, hs32⟩
    have z7 := e7.size
    have E := E.trans e7
    replace O4 := O4.ext e7
    refine ov (xassign rfl) rfl rfl rfl ?_
    refine ops_nil ?_
    refine run_seq ?_
    refine run_region ?_
    refine ov (xmove rfl) rfl rfl rfl ?_
    refine oc (xcall Tryd.call11 rfl) rfl rfl rfl (ReadRuling_ok s32 _ (by omega) (hD.ext E)) ?_
    rintro _ w8 ⟨rfl, e8⟩
    have z8 := e8.size
    have E := E.trans e8
    replace O4 := O4.ext e8
    refine ov (xmove rfl) rfl rfl rfl ?_
    refine ov (xextract rfl rfl) rfl rfl rfl ?_
    refine ov (xextract rfl rfl) rfl rfl rfl ?_
    refine oalloc Tryd.zeroValue27 rfl rfl ?_
    intro b9 w9 e9 hb9 hz9 O9
    have E := E.trans e9
    replace O4 := O4.ext e9
    replace O9 : Own w9 b9 [.int .i64 0, .string ⟨#[]⟩, .int .i64 0] 27 := O9
    refine ostoreN (vs := _) Tryd.sizeOf27 rfl rfl O9 rfl (by simp) (by simp [Value.oneCell']) rfl ?_
    intro w10 on10 O10
    have hz10 := on10.size
    have E := on10.ext E (by omega)
    replace O4 := on10.own O4 (by omega)
    replace O10 : Own w10 b9 [.int .i64 (readR s32).1.Day, .string (readR s32).1.Code, .int .i64 (readR s32).1.Kind] 27 := O10
    refine ov (xassign rfl) rfl rfl rfl ?_
    refine ops_nil ?_
    refine run_seq ?_
    refine run_region ?_
    refine ov (xmove rfl) rfl rfl rfl ?_
    refine oc (xcall Tryd.call10 rfl) rfl rfl rfl (sReadRuling_ok s32 _ (by omega)) ?_
    rintro _ w11 ⟨rfl, e11⟩
    have z11 := e11.size
    have E := E.trans e11
    replace O4 := O4.ext e11
    replace O10 := O10.ext e11
    refine ov (xmove rfl) rfl rfl rfl ?_
    refine ov (xextract rfl rfl) rfl rfl rfl ?_
    refine ov (xextract rfl rfl) rfl rfl rfl ?_
    refine oalloc Tryd.zeroValue27 rfl rfl ?_
    intro b12 w12 e12 hb12 hz12 O12
    have E := E.trans e12
    replace O4 := O4.ext e12
    replace O10 := O10.ext e12
    replace O12 : Own w12 b12 [.int .i64 0, .string ⟨#[]⟩, .int .i64 0] 27 := O12
    refine ostoreN (vs := _) Tryd.sizeOf27 rfl rfl O12 rfl (by simp) (by simp [Value.oneCell']) rfl ?_
    intro w13 on13 O13
    have hz13 := on13.size
    have E := on13.ext E (by omega)
    replace O4 := on13.own O4 (by omega)
    replace O10 := on13.own O10 (by omega)
    replace O13 : Own w13 b12 [.int .i64 (readR s32).1.Day, .string (readR s32).1.Code, .int .i64 (readR s32).1.Kind] 27 := O13
    refine ov (xassign rfl) rfl rfl rfl ?_
    refine ops_nil ?_
    refine run_seq ?_
    refine run_seq ?_
    refine run_region ?_
    refine ov (xmove rfl) rfl rfl rfl ?_
    refine ov (xmove rfl) rfl rfl rfl ?_
    refine ov (xneq rfl rfl _ rfl) rfl rfl rfl ?_
    refine ods (fun c45 => ?_) (fun c45 => ?_)
    · exfalso; exact absurd rfl c45
    ·
      refine ov (xmove rfl) rfl rfl rfl ?_
      refine ov (xmove rfl) rfl rfl rfl ?_
      refine ov (xmove rfl) rfl rfl rfl ?_
      refine ov (xsneq rfl rfl _ rfl) rfl rfl rfl ?_
      refine ods (fun c49 => ?_) (fun c49 => ?_)
      · exfalso; exact absurd rfl c49
      ·
        refine ov (xpick_f rfl rfl) rfl rfl rfl ?_
        refine ov (xmove rfl) rfl rfl rfl ?_
        refine ov (xmove rfl) rfl rfl rfl ?_
        refine ov (xmove rfl) rfl rfl rfl ?_
        refine ov (xneq rfl rfl _ rfl) rfl rfl rfl ?_
        refine ods (fun c54 => ?_) (fun c54 => ?_)
        · exfalso; exact absurd rfl c54
        ·
          refine ov (xpick_f rfl rfl) rfl rfl rfl ?_
          refine ov (xmove rfl) rfl rfl rfl ?_
          refine ov (v := .agg #[.int .i64 (readR s32).1.Day, .string (readR s32).1.Code, .int .i64 (readR s32).1.Kind]) (xloadN Tryd.isAgg27 Tryd.sizeOf27 rfl (O10.cells) rfl) rfl rfl rfl ?_
          refine ov (v := .agg #[.int .i64 (readR s32).1.Day, .string (readR s32).1.Code, .int .i64 (readR s32).1.Kind]) (xloadN Tryd.isAgg27 Tryd.sizeOf27 rfl (O13.cells) rfl) rfl rfl rfl ?_
          refine ov (xneq27 rfl rfl) rfl rfl rfl ?_
          refine ods (fun c59 => ?_) (fun c59 => ?_)
          · exfalso; exact absurd c59 (by decide)
          ·
            refine ov (xpick_f rfl rfl) rfl rfl rfl ?_
            refine ops_nil ?_
            refine run_cond_f rfl ?_
            refine run_skip ?_
            refine run_seq ?_
            refine run_seq ?_
            refine run_region ?_
            refine ov (xmove rfl) rfl rfl rfl ?_
            refine ov (xeql rfl rfl _ rfl) rfl rfl rfl ?_
            refine ods (fun c62 => ?_) (fun c62 => ?_)
            ·
              refine ops_nil ?_
              refine run_cond_t rfl ?_
              refine run_seq ?_
              refine run_region ?_
              refine ov (v := .agg #[.int .i64 (readR s32).1.Day, .string (readR s32).1.Code, .int .i64 (readR s32).1.Kind]) (xloadN Tryd.isAgg27 Tryd.sizeOf27 rfl (O10.cells) rfl) rfl rfl rfl ?_
              refine oc (xcall Tryd.call9 rfl) rfl rfl rfl (RulingText_back s32 _ c62 (hD.tab.ext E)) ?_
              rintro _ w14 ⟨rfl, e14⟩
              have z14 := e14.size
              have E := E.trans e14
              replace O4 := O4.ext e14
              replace O10 := O10.ext e14
              replace O13 := O13.ext e14
              refine ov (xmove rfl) rfl rfl rfl ?_
              refine ov (xextract rfl rfl) rfl rfl rfl ?_
              refine ov (xextract rfl rfl) rfl rfl rfl ?_
              refine ov (xassign rfl) rfl rfl rfl ?_
              refine ov (xassign rfl) rfl rfl rfl ?_
              refine ops_nil ?_
              refine run_seq ?_
              refine run_region ?_
              refine ov (xmove rfl) rfl rfl rfl ?_
              refine ov (xneq rfl rfl _ rfl) rfl rfl rfl ?_
              refine ods (fun c69 => ?_) (fun c69 => ?_)
              · exfalso; exact absurd rfl c69
              ·
                refine ov (xmove rfl) rfl rfl rfl ?_
                refine ov (xmove rfl) rfl rfl rfl ?_
                refine ov (xmove rfl) rfl rfl rfl ?_
                refine ov (xsneq rfl rfl _ rfl) rfl rfl rfl ?_
                refine ods (fun c73 => ?_) (fun c73 => ?_)
                · exfalso; exact absurd rfl c73
                ·
                  refine ov (xpick_f rfl rfl) rfl rfl rfl ?_
                  refine ops_nil ?_
                  refine run_cond_f rfl ?_
                  refine run_skip ?_
                  refine run_seq ?_
                  refine run_seq ?_
                  refine run_region ?_
                  refine ov (xmove rfl) rfl rfl rfl ?_
                  refine ov (xneq rfl rfl _ rfl) rfl rfl rfl ?_
                  refine ods (fun c76 => ?_) (fun c76 => ?_)
                  ·
                    refine ops_nil ?_
                    refine run_cond_t rfl ?_
                    refine run_seq ?_
                    refine run_region ?_
                    refine ov (xassign rfl) rfl rfl rfl ?_
                    refine ops_nil ?_
                    refine run_ret Tryd.func5 (res1 rfl rfl) ?_
                    exact ⟨_, rfl, rfl, E⟩
                  ·
                    refine ops_nil ?_
                    refine run_cond_f rfl ?_
                    refine run_skip ?_
                    refine run_seq ?_
                    refine run_region ?_
                    refine ov (xmove rfl) rfl rfl rfl ?_
                    refine oc (xcall Tryd.call11 rfl) rfl rfl rfl (ReadRuling_back x20 _ (by omega) (hD.ext E)) ?_
                    rintro _ w15 ⟨rfl, e15⟩
                    have z15 := e15.size
                    have E := E.trans e15
                    replace O4 := O4.ext e15
                    replace O10 := O10.ext e15
                    replace O13 := O13.ext e15
                    refine ov (xmove rfl) rfl rfl rfl ?_
                    refine ov (xextract rfl rfl) rfl rfl rfl ?_
                    refine ov (xextract rfl rfl) rfl rfl rfl ?_
                    refine oalloc Tryd.zeroValue27 rfl rfl ?_
                    intro b16 w16 e16 hb16 hz16 O16
                    have E := E.trans e16
                    replace O4 := O4.ext e16
                    replace O10 := O10.ext e16
                    replace O13 := O13.ext e16
                    replace O16 : Own w16 b16 [.int .i64 0, .string ⟨#[]⟩, .int .i64 0] 27 := O16
                    refine ostoreN (vs := _) Tryd.sizeOf27 rfl rfl O16 rfl (by simp) (by simp [Value.oneCell']) rfl ?_
                    intro w17 on17 O17
                    have hz17 := on17.size
                    have E := on17.ext E (by omega)
                    replace O4 := on17.own O4 (by omega)
                    replace O10 := on17.own O10 (by omega)
                    replace O13 := on17.own O13 (by omega)
                    replace O17 : Own w17 b16 [.int .i64 x20.Day, .string x20.Code, .int .i64 x20.Kind] 27 := O17
                    refine ov (xassign rfl) rfl rfl rfl ?_
                    refine ops_nil ?_
                    refine run_seq ?_
                    refine run_region ?_
                    refine ov (xmove rfl) rfl rfl rfl ?_
                    refine ov (xeql rfl rfl _ rfl) rfl rfl rfl ?_
                    refine ods (fun c83 => ?_) (fun c83 => ?_)
                    ·
                      refine ov (xmove rfl) rfl rfl rfl ?_
                      refine ov (v := .agg #[.int .i64 x20.Day, .string x20.Code, .int .i64 x20.Kind]) (xloadN Tryd.isAgg27 Tryd.sizeOf27 rfl (O17.cells) rfl) rfl rfl rfl ?_
                      refine ov (v := .agg #[.int .i64 x20.Day, .string x20.Code, .int .i64 x20.Kind]) (xloadN Tryd.isAgg27 Tryd.sizeOf27 rfl (O4.cells) rfl) rfl rfl rfl ?_
                      refine ov (xneq27 rfl rfl) rfl rfl rfl ?_
                      refine ov (xnot rfl) rfl rfl rfl ?_
                      refine ov (xpick_t rfl rfl) rfl rfl rfl ?_
                      refine ov (xassign rfl) rfl rfl rfl ?_
                      refine ops_nil ?_
                      refine run_ret Tryd.func5 (res1 rfl rfl) ?_
                      exact ⟨_, rfl, rfl, E⟩
                    · exfalso; exact absurd rfl c83
            ·
              refine ops_nil ?_
              refine run_cond_f rfl ?_
              refine run_skip ?_
              refine run_seq ?_
              refine run_seq ?_
              refine run_region ?_
              refine ov (xmove rfl) rfl rfl rfl ?_
              refine ov (xneq rfl rfl _ rfl) rfl rfl rfl ?_
              refine ods (fun c76 => ?_) (fun c76 => ?_)
              ·
                refine ops_nil ?_
                refine run_cond_t rfl ?_
                refine run_seq ?_
                refine run_region ?_
                refine ov (xassign rfl) rfl rfl rfl ?_
                refine ops_nil ?_
                refine run_ret Tryd.func5 (res1 rfl rfl) ?_
                exact ⟨_, rfl, rfl, E⟩
              ·
                refine ops_nil ?_
                refine run_cond_f rfl ?_
                refine run_skip ?_
                refine run_seq ?_
                refine run_region ?_
                refine ov (xmove rfl) rfl rfl rfl ?_
                refine oc (xcall Tryd.call11 rfl) rfl rfl rfl (ReadRuling_back x20 _ (by omega) (hD.ext E)) ?_
                rintro _ w14 ⟨rfl, e14⟩
                have z14 := e14.size
                have E := E.trans e14
                replace O4 := O4.ext e14
                replace O10 := O10.ext e14
                replace O13 := O13.ext e14
                refine ov (xmove rfl) rfl rfl rfl ?_
                refine ov (xextract rfl rfl) rfl rfl rfl ?_
                refine ov (xextract rfl rfl) rfl rfl rfl ?_
                refine oalloc Tryd.zeroValue27 rfl rfl ?_
                intro b15 w15 e15 hb15 hz15 O15
                have E := E.trans e15
                replace O4 := O4.ext e15
                replace O10 := O10.ext e15
                replace O13 := O13.ext e15
                replace O15 : Own w15 b15 [.int .i64 0, .string ⟨#[]⟩, .int .i64 0] 27 := O15
                refine ostoreN (vs := _) Tryd.sizeOf27 rfl rfl O15 rfl (by simp) (by simp [Value.oneCell']) rfl ?_
                intro w16 on16 O16
                have hz16 := on16.size
                have E := on16.ext E (by omega)
                replace O4 := on16.own O4 (by omega)
                replace O10 := on16.own O10 (by omega)
                replace O13 := on16.own O13 (by omega)
                replace O16 : Own w16 b15 [.int .i64 x20.Day, .string x20.Code, .int .i64 x20.Kind] 27 := O16
                refine ov (xassign rfl) rfl rfl rfl ?_
                refine ops_nil ?_
                refine run_seq ?_
                refine run_region ?_
                refine ov (xmove rfl) rfl rfl rfl ?_
                refine ov (xeql rfl rfl _ rfl) rfl rfl rfl ?_
                refine ods (fun c83 => ?_) (fun c83 => ?_)
                ·
                  refine ov (xmove rfl) rfl rfl rfl ?_
                  refine ov (v := .agg #[.int .i64 x20.Day, .string x20.Code, .int .i64 x20.Kind]) (xloadN Tryd.isAgg27 Tryd.sizeOf27 rfl (O16.cells) rfl) rfl rfl rfl ?_
                  refine ov (v := .agg #[.int .i64 x20.Day, .string x20.Code, .int .i64 x20.Kind]) (xloadN Tryd.isAgg27 Tryd.sizeOf27 rfl (O4.cells) rfl) rfl rfl rfl ?_
                  refine ov (xneq27 rfl rfl) rfl rfl rfl ?_
                  refine ov (xnot rfl) rfl rfl rfl ?_
                  refine ov (xpick_t rfl rfl) rfl rfl rfl ?_
                  refine ov (xassign rfl) rfl rfl rfl ?_
                  refine ops_nil ?_
                  refine run_ret Tryd.func5 (res1 rfl rfl) ?_
                  exact ⟨_, rfl, rfl, E⟩
                · exfalso; exact absurd rfl c83
end Go.Proofs.YtnjohcbamblilaaDoor
