/-
  Exhibits: what one is, holders and breaks. No condition beyond those written in each theorem.
-/
import Derived.Test.YtnjohcbamblilaaTExh
namespace Go.Proofs.Ytnjohcbamblilaa
open Go.RowKit
set_option linter.unusedVariables false
set_option linter.unusedSimpArgs false
set_option linter.unusedSectionVars false
set_option maxRecDepth 4000


def isHanding (h : Handing) : Bool := inR 0 20000 h.Day && isWord h.From && isWord h.To && inR 1 1000000 h.Seal
def isExhibit (x : Exhibit) : Bool := allB x.Chain.length (allI (fun _ h => isHanding h) x.Chain) && (isWord x.Code && isWord x.Found && inR 0 20000 x.Day && inR 1 1000000 x.Seal && decide (x.Chain.length ≤ 12))
/-- the texts of an exhibit are texts -/
def exSmall (x : Exhibit) : Prop := x.Code.size ≤ 9223372036854775807 ∧ x.Found.size ≤ 9223372036854775807 ∧ ∀ h ∈ x.Chain, h.From.size ≤ 9223372036854775807 ∧ h.To.size ≤ 9223372036854775807
theorem isExhibit_len {x : Exhibit} (h : isExhibit x = true) : x.Chain.length ≤ 12 := by
  simp only [isExhibit, Bool.and_eq_true, decide_eq_true_eq] at h; exact h.2.2
/-- the holder behind k handings -/
def hold (x : Exhibit) (k : Nat) : ByteArray := if k = 0 then x.Found else match x.Chain[k - 1]? with
  | some h => h.To
  | none => ⟨#[]⟩
theorem hold_succ {x : Exhibit} {k : Nat} (h : k < x.Chain.length) : hold x (k + 1) = x.Chain[k].To := by
  rw [hold, if_neg (by omega), Nat.add_sub_cancel, List.getElem?_eq_getElem h]
theorem hold_pos {x : Exhibit} {k : Nat} (h0 : k ≠ 0) (h : k - 1 < x.Chain.length) : hold x k = x.Chain[k - 1].To := by
  rw [hold, if_neg h0, List.getElem?_eq_getElem h]
def brkGo (who : ByteArray) (day : Int) (i : Nat) : List Handing → Nat
  | [] => i
  | h :: r => if h.Day < day ∨ h.From ≠ who ∨ h.To = h.From then i else brkGo h.To h.Day (i + 1) r
def brk (x : Exhibit) : Nat := brkGo x.Found x.Day 0 x.Chain
theorem brkGo_le : ∀ (l : List Handing) (who : ByteArray) (day : Int) (i : Nat), brkGo who day i l ≤ i + l.length
  | [], _, _, _ => Nat.le_refl _
  | h :: r, who, day, i => by
    unfold brkGo; split
    · omega
    · have := brkGo_le r h.To h.Day (i + 1); simp only [List.length_cons]; omega
theorem brk_le (x : Exhibit) : brk x ≤ x.Chain.length := by have := brkGo_le x.Chain x.Found x.Day 0; unfold brk; omega
/-- the reference's way to tell the break -/
def brkZ (x : Exhibit) : Int := if brk x < x.Chain.length then (brk x : Int) else -1
theorem brkZ_or (x : Exhibit) : (brk x < x.Chain.length ∧ brkZ x = brk x) ∨ (brk x = x.Chain.length ∧ brkZ x = -1) := by
  have := brk_le x
  unfold brkZ; split
  · omega
  · omega
def past (x : Exhibit) (day : Int) : Nat := (x.Chain.takeWhile (fun h => decide (h.Day ≤ day))).length
theorem past_le (x : Exhibit) (day : Int) : past x day ≤ x.Chain.length := (List.takeWhile_sublist _).length_le
def tw (x : Exhibit) (day : Int) (k : Nat) : Nat := k + ((x.Chain.drop k).takeWhile (fun h => decide (h.Day ≤ day))).length
theorem tw_zero (x : Exhibit) (day : Int) : past x day = tw x day 0 := by simp [tw, past]
theorem tw_step {x : Exhibit} {day : Int} {k : Nat} (hk : k < x.Chain.length) (h : x.Chain[k].Day ≤ day) : tw x day k = tw x day (k + 1) := by
  rw [tw, List.drop_eq_getElem_cons hk, List.takeWhile_cons_of_pos (by simpa using h), List.length_cons, tw]; omega
theorem tw_stop {x : Exhibit} {day : Int} {k : Nat} (hk : k < x.Chain.length) (h : ¬ x.Chain[k].Day ≤ day) : tw x day k = k := by
  rw [tw, List.drop_eq_getElem_cons hk, List.takeWhile_cons_of_neg (by simpa using h)]; rfl
theorem tw_end {x : Exhibit} {day : Int} {k : Nat} (hk : k = x.Chain.length) : tw x day k = k := by
  rw [tw, hk, List.drop_length]; rfl
def holderOn (x : Exhibit) (day : Int) : ByteArray × Int :=
  if isExhibit x = false then (⟨#[]⟩, 1) else if inR 0 20000 day = false then (⟨#[]⟩, 2) else if day < x.Day ∨ brk x < past x day then (⟨#[]⟩, 5) else (hold x (past x day), 0)
/-- the days of a holder among the first k -/
def dcount (x : Exhibit) (who : ByteArray) : Nat → Int
  | 0 => 0
  | k + 1 => if hold x (past x (x.Day + k - 1)) = who then dcount x who k + 1 else dcount x who k
theorem dcount_le (x : Exhibit) (who : ByteArray) : ∀ k : Nat, 0 ≤ dcount x who k ∧ dcount x who k ≤ k
  | 0 => by simp [dcount]
  | k + 1 => by
    have := dcount_le x who k
    unfold dcount; split <;> omega
def daysHeld (x : Exhibit) (who : ByteArray) (till : Int) : Int × Int :=
  if isExhibit x = false then (0, 1) else if inR 0 20000 till = false then (0, 2) else if brk x ≠ x.Chain.length then (0, 5) else (dcount x who (till - x.Day).toNat, 0)
def chgGo (sl : Int) (i : Nat) : List Handing → List Int
  | [] => []
  | h :: r => if h.Seal ≠ sl then (i : Int) :: chgGo h.Seal (i + 1) r else chgGo h.Seal (i + 1) r
theorem chgGo_len : ∀ (l : List Handing) (sl : Int) (i : Nat), (chgGo sl i l).length ≤ l.length
  | [], _, _ => Nat.le_refl _
  | h :: r, sl, i => by
    have := chgGo_len r h.Seal (i + 1)
    unfold chgGo; split <;> simp only [List.length_cons] <;> omega
def sealChanges (x : Exhibit) : List Int × Int := if isExhibit x = false then ([], 1) else (chgGo x.Seal 0 x.Chain, 0)
theorem sealChanges_len (x : Exhibit) : (sealChanges x).1.length ≤ 12 := by
  unfold sealChanges; split
  · simp
  · rename_i h
    have := isExhibit_len (by simpa using h : isExhibit x = true)
    have := chgGo_len x.Chain x.Seal 0; simp only; omega


set_option maxHeartbeats 400000 in
theorem isHanding_ok (r : Handing) (w : World) (hc : r.From.size ≤ 9223372036854775807 ∧ r.To.size ≤ 9223372036854775807) : Ret Try.prog 117 [.agg #[.int .i64 r.Day, .string r.From, .string r.To, .int .i64 r.Seal]] w (Pv w (.bool (isHanding r))) := by
  refine ret_of_run (N := 21) Try.func117 rfl rfl rfl ?_
  obtain ⟨hc1, hc2⟩ := hc
  have E : Ext w w := Ext.refl w
  refine run_seq ?_
  refine run_region ?_
  refine obox rfl rfl rfl ?_
  intro b1 w1 e1 hb1 hz1 O1
  have E := E.trans e1
  replace O1 : Own w1 b1 [.int .i64 r.Day, .string r.From, .string r.To, .int .i64 r.Seal] 77 := O1
  refine ov (xassign rfl) rfl rfl rfl ?_
  refine ops_nil ?_
  refine run_seq ?_
  refine run_region ?_
  refine ov (xfieldAddr fo77f0 rfl) rfl rfl rfl ?_
  refine ov (v := .int .i64 r.Day) (xload1 Try.isAgg2 rfl (O1.cells) rfl) rfl rfl rfl ?_
  refine oc (xcall Try.call96 rfl) rfl rfl rfl (isDay_ok (r.Day) _) ?_
  rintro _ w_ ⟨rfl, hw_⟩
  replace hw_ := hw_.symm
  subst hw_
  refine obs (fun c5 => ?_) (fun c5 => ?_)
  ·
    refine ov (xmove rfl) rfl rfl rfl ?_
    refine ov (xfieldAddr fo77f1 rfl) rfl rfl rfl ?_
    refine ov (v := .string r.From) (xload1 Try.isAgg9 rfl (O1.cells) rfl) rfl rfl rfl ?_
    refine oc (xcall Try.call95 rfl) rfl rfl rfl (IsWord_ok (r.From) _ (by first | assumption | omega)) ?_
    rintro _ w_ ⟨rfl, hw_⟩
    replace hw_ := hw_.symm
    subst hw_
    refine obs (fun c9 => ?_) (fun c9 => ?_)
    ·
      refine ov (xpick_t rfl rfl) rfl rfl rfl ?_
      refine ov (xmove rfl) rfl rfl rfl ?_
      refine ov (xfieldAddr fo77f2 rfl) rfl rfl rfl ?_
      refine ov (v := .string r.To) (xload1 Try.isAgg9 rfl (O1.cells) rfl) rfl rfl rfl ?_
      refine oc (xcall Try.call95 rfl) rfl rfl rfl (IsWord_ok (r.To) _ (by first | assumption | omega)) ?_
      rintro _ w_ ⟨rfl, hw_⟩
      replace hw_ := hw_.symm
      subst hw_
      refine obs (fun c14 => ?_) (fun c14 => ?_)
      ·
        refine ov (xpick_t rfl rfl) rfl rfl rfl ?_
        refine ov (xmove rfl) rfl rfl rfl ?_
        refine ov (xfieldAddr fo77f3 rfl) rfl rfl rfl ?_
        refine ov (v := .int .i64 r.Seal) (xload1 Try.isAgg2 rfl (O1.cells) rfl) rfl rfl rfl ?_
        refine oc (xcall Try.call124 rfl) rfl rfl rfl (isNumber_ok (r.Seal) _) ?_
        rintro _ w_ ⟨rfl, hw_⟩
        replace hw_ := hw_.symm
        subst hw_
        refine ov (xpick_t rfl rfl) rfl rfl rfl ?_
        refine ov (xassign rfl) rfl rfl rfl ?_
        refine ops_nil ?_
        refine run_ret Try.func117 (res1 rfl rfl) ?_
        exact ⟨_, rfl, by simp [isHanding, *], E⟩
      ·
        refine ov (xpick_t rfl rfl) rfl rfl rfl ?_
        refine ov (xmove rfl) rfl rfl rfl ?_
        refine og rfl rfl rfl ?_
        refine og rfl rfl rfl ?_
        refine og rfl rfl rfl ?_
        refine ov (xpick_f rfl rfl) rfl rfl rfl ?_
        refine ov (xassign rfl) rfl rfl rfl ?_
        refine ops_nil ?_
        refine run_ret Try.func117 (res1 rfl rfl) ?_
        exact ⟨_, rfl, by simp [isHanding, *], E⟩
    ·
      refine ov (xpick_t rfl rfl) rfl rfl rfl ?_
      refine ov (xmove rfl) rfl rfl rfl ?_
      refine og rfl rfl rfl ?_
      refine og rfl rfl rfl ?_
      refine og rfl rfl rfl ?_
      refine ov (xpick_f rfl rfl) rfl rfl rfl ?_
      refine ov (xmove rfl) rfl rfl rfl ?_
      refine og rfl rfl rfl ?_
      refine og rfl rfl rfl ?_
      refine og rfl rfl rfl ?_
      refine ov (xpick_f rfl rfl) rfl rfl rfl ?_
      refine ov (xassign rfl) rfl rfl rfl ?_
      refine ops_nil ?_
      refine run_ret Try.func117 (res1 rfl rfl) ?_
      exact ⟨_, rfl, by simp [isHanding, *], E⟩
  ·
    refine ov (xmove rfl) rfl rfl rfl ?_
    refine og rfl rfl rfl ?_
    refine og rfl rfl rfl ?_
    refine og rfl rfl rfl ?_
    refine ov (xpick_f rfl rfl) rfl rfl rfl ?_
    refine ov (xmove rfl) rfl rfl rfl ?_
    refine og rfl rfl rfl ?_
    refine og rfl rfl rfl ?_
    refine og rfl rfl rfl ?_
    refine ov (xpick_f rfl rfl) rfl rfl rfl ?_
    refine ov (xmove rfl) rfl rfl rfl ?_
    refine og rfl rfl rfl ?_
    refine og rfl rfl rfl ?_
    refine og rfl rfl rfl ?_
    refine ov (xpick_f rfl rfl) rfl rfl rfl ?_
    refine ov (xassign rfl) rfl rfl rfl ?_
    refine ops_nil ?_
    refine run_ret Try.func117 (res1 rfl rfl) ?_
    exact ⟨_, rfl, by simp [isHanding, *], E⟩

set_option maxHeartbeats 400000 in
theorem l23Handing_ok (r : Handing) (w : World) (hc : r.From.size ≤ 9223372036854775807 ∧ r.To.size ≤ 9223372036854775807) : Ret Try.prog 116 [.agg #[.int .i64 r.Day, .string r.From, .string r.To, .int .i64 r.Seal]] w (Pv w (.bool (isHanding r))) := by
  refine ret_of_run (N := 21) Try.func116 rfl rfl rfl ?_
  obtain ⟨hc1, hc2⟩ := hc
  have E : Ext w w := Ext.refl w
  refine run_seq ?_
  refine run_region ?_
  refine obox rfl rfl rfl ?_
  intro b1 w1 e1 hb1 hz1 O1
  have E := E.trans e1
  replace O1 : Own w1 b1 [.int .i64 r.Day, .string r.From, .string r.To, .int .i64 r.Seal] 77 := O1
  refine ov (xassign rfl) rfl rfl rfl ?_
  refine ops_nil ?_
  refine run_seq ?_
  refine run_region ?_
  refine ov (xfieldAddr fo77f0 rfl) rfl rfl rfl ?_
  refine ov (v := .int .i64 r.Day) (xload1 Try.isAgg2 rfl (O1.cells) rfl) rfl rfl rfl ?_
  refine oc (xcall Try.call93 rfl) rfl rfl rfl (l02Is_ok (r.Day) _) ?_
  rintro _ w_ ⟨rfl, hw_⟩
  replace hw_ := hw_.symm
  subst hw_
  refine obs (fun c5 => ?_) (fun c5 => ?_)
  ·
    refine ov (xmove rfl) rfl rfl rfl ?_
    refine ov (xfieldAddr fo77f1 rfl) rfl rfl rfl ?_
    refine ov (v := .string r.From) (xload1 Try.isAgg9 rfl (O1.cells) rfl) rfl rfl rfl ?_
    refine oc (xcall Try.call92 rfl) rfl rfl rfl (sIsWord_ok (r.From) _ (by first | assumption | omega)) ?_
    rintro _ w_ ⟨rfl, hw_⟩
    replace hw_ := hw_.symm
    subst hw_
    refine obs (fun c9 => ?_) (fun c9 => ?_)
    ·
      refine ov (xpick_t rfl rfl) rfl rfl rfl ?_
      refine ov (xmove rfl) rfl rfl rfl ?_
      refine ov (xfieldAddr fo77f2 rfl) rfl rfl rfl ?_
      refine ov (v := .string r.To) (xload1 Try.isAgg9 rfl (O1.cells) rfl) rfl rfl rfl ?_
      refine oc (xcall Try.call92 rfl) rfl rfl rfl (sIsWord_ok (r.To) _ (by first | assumption | omega)) ?_
      rintro _ w_ ⟨rfl, hw_⟩
      replace hw_ := hw_.symm
      subst hw_
      refine obs (fun c14 => ?_) (fun c14 => ?_)
      ·
        refine ov (xpick_t rfl rfl) rfl rfl rfl ?_
        refine ov (xmove rfl) rfl rfl rfl ?_
        refine ov (xfieldAddr fo77f3 rfl) rfl rfl rfl ?_
        refine ov (v := .int .i64 r.Seal) (xload1 Try.isAgg2 rfl (O1.cells) rfl) rfl rfl rfl ?_
        refine oc (xcall Try.call135 rfl) rfl rfl rfl (l01In_ok (r.Seal) (1) (1000000) _) ?_
        rintro _ w_ ⟨rfl, hw_⟩
        replace hw_ := hw_.symm
        subst hw_
        refine ov (xpick_t rfl rfl) rfl rfl rfl ?_
        refine ov (xassign rfl) rfl rfl rfl ?_
        refine ops_nil ?_
        refine run_ret Try.func116 (res1 rfl rfl) ?_
        exact ⟨_, rfl, by simp [isHanding, *], E⟩
      ·
        refine ov (xpick_t rfl rfl) rfl rfl rfl ?_
        refine ov (xmove rfl) rfl rfl rfl ?_
        refine og rfl rfl rfl ?_
        refine og rfl rfl rfl ?_
        refine og rfl rfl rfl ?_
        refine ov (xpick_f rfl rfl) rfl rfl rfl ?_
        refine ov (xassign rfl) rfl rfl rfl ?_
        refine ops_nil ?_
        refine run_ret Try.func116 (res1 rfl rfl) ?_
        exact ⟨_, rfl, by simp [isHanding, *], E⟩
    ·
      refine ov (xpick_t rfl rfl) rfl rfl rfl ?_
      refine ov (xmove rfl) rfl rfl rfl ?_
      refine og rfl rfl rfl ?_
      refine og rfl rfl rfl ?_
      refine og rfl rfl rfl ?_
      refine ov (xpick_f rfl rfl) rfl rfl rfl ?_
      refine ov (xmove rfl) rfl rfl rfl ?_
      refine og rfl rfl rfl ?_
      refine og rfl rfl rfl ?_
      refine og rfl rfl rfl ?_
      refine ov (xpick_f rfl rfl) rfl rfl rfl ?_
      refine ov (xassign rfl) rfl rfl rfl ?_
      refine ops_nil ?_
      refine run_ret Try.func116 (res1 rfl rfl) ?_
      exact ⟨_, rfl, by simp [isHanding, *], E⟩
  ·
    refine ov (xmove rfl) rfl rfl rfl ?_
    refine og rfl rfl rfl ?_
    refine og rfl rfl rfl ?_
    refine og rfl rfl rfl ?_
    refine ov (xpick_f rfl rfl) rfl rfl rfl ?_
    refine ov (xmove rfl) rfl rfl rfl ?_
    refine og rfl rfl rfl ?_
    refine og rfl rfl rfl ?_
    refine og rfl rfl rfl ?_
    refine ov (xpick_f rfl rfl) rfl rfl rfl ?_
    refine ov (xmove rfl) rfl rfl rfl ?_
    refine og rfl rfl rfl ?_
    refine og rfl rfl rfl ?_
    refine og rfl rfl rfl ?_
    refine ov (xpick_f rfl rfl) rfl rfl rfl ?_
    refine ov (xassign rfl) rfl rfl rfl ?_
    refine ops_nil ?_
    refine run_ret Try.func116 (res1 rfl rfl) ?_
    exact ⟨_, rfl, by simp [isHanding, *], E⟩

set_option maxHeartbeats 400000 in
theorem IsExhibit_ok (p : Option Addr) (n c : Nat) (x : Exhibit) (w : World) (H : Sl Handing.cells 4 w p n c x.Chain) (hx : exSmall x) : Ret Try.prog 66 [.agg #[.string x.Code, .string x.Found, .int .i64 x.Day, .int .i64 x.Seal, .slice p n c]] w (Pv w (.bool (isExhibit x))) := by
  refine ret_of_run (N := 40) Try.func66 rfl rfl rfl ?_
  have hn := H.len
  have hn6 := H.n64
  obtain ⟨hx1, hx2, hx3⟩ := hx
  have E : Ext w w := Ext.refl w
  refine run_seq ?_
  refine run_region ?_
  refine obox rfl rfl rfl ?_
  intro b1 w1 e1 hb1 hz1 O1
  have E := E.trans e1
  replace O1 : Own w1 b1 [.string x.Code, .string x.Found, .int .i64 x.Day, .int .i64 x.Seal, .slice p n c] 49 := O1
  refine ov (xassign rfl) rfl rfl rfl ?_
  refine ops_nil ?_
  refine run_seq ?_
  refine run_seq ?_
  refine run_region ?_
  refine ov (xfieldAddr fo49f4 rfl) rfl rfl rfl ?_
  refine ov (v := .slice p n c) (xload1 Try.isAgg47 rfl (O1.cells) rfl) rfl rfl rfl ?_
  refine ov (xlen Try.underlying47 rfl) rfl rfl rfl ?_
  refine ov (xmove rfl) rfl rfl rfl ?_
  refine ops_nil ?_
  refine run_block ?_
  refine run_loop (ι := Nat × World) (fun x_ => match x_ with | (k, wr) => (Ext w wr) ∧ (Own wr b1 ([.string x.Code, .string x.Found, .int .i64 x.Day, .int .i64 x.Seal, .slice p n c]) 49) ∧ (w1.heap.size ≤ wr.heap.size) ∧ (k ≤ n) ∧ (allB k (allI (fun _ h => isHanding h) x.Chain) = true)) (fun x_ => match x_ with | (k, wr) => [(1, .pointer (some ⟨b1, 0, none⟩)), (6, .slice p n c), (7, .int .i64 (n : Int)), (8, .int .i64 (k : Int))]) (fun x_ => match x_ with | (k, wr) => wr) (fun x_ => match x_ with | (k, wr) => n - k) ?_ (0, w1) (⟨E, O1, Nat.le_refl _, by omega, allB_zero⟩) ⟨rfl, rfl, rfl, rfl, trivial⟩ rfl
  intro i_ hI_ hback2
  obtain ⟨k, wr⟩ := i_
  obtain ⟨E, O_b1, lz_wr, hk, ha⟩ := hI_
  try dsimp only
  have zr := E.size
  have lt_b1 := O_b1.lt
  refine run_seq ?_
  refine run_region ?_
  refine ov (xlss rfl rfl _ rfl) rfl rfl rfl ?_
  refine ods (fun c9 => ?_) (fun c9 => ?_)
  ·
    refine ops_nil ?_
    refine run_seq ?_
    refine run_cond_t rfl ?_
    refine run_skip ?_
    refine run_seq ?_
    refine run_block ?_
    refine run_seq ?_
    refine run_region ?_
    have h10 := (H.ext E).at (i := k) (by omega)
    refine ov (xindexN (i := k) Try.underlying47 Try.sizeOf77 rfl rfl rfl ((H.ext E).p (i := k) (by omega)) (by have := (H.ext E).len; omega)) rfl rfl rfl ?_
    refine ov (v := .agg #[.int .i64 x.Chain[k].Day, .string x.Chain[k].From, .string x.Chain[k].To, .int .i64 x.Chain[k].Seal]) (xloadN Try.isAgg77 Try.sizeOf77 rfl (h10) rfl) rfl rfl rfl ?_
    refine oalloc Try.zeroValue77 rfl rfl ?_
    intro b2 w2 e2 hb2 hz2 O2
    have E := E.trans e2
    replace O_b1 := O_b1.ext e2
    replace O2 : Own w2 b2 [.int .i64 0, .string ⟨#[]⟩, .string ⟨#[]⟩, .int .i64 0] 77 := O2
    refine ostoreN (vs := _) Try.sizeOf77 rfl rfl O2 rfl (by simp) (by simp [Value.oneCell']) rfl ?_
    intro w3 on3 O3
    have hz3 := on3.size
    have E := on3.ext E (by omega)
    replace O_b1 := on3.own O_b1 (by omega)
    replace O3 : Own w3 b2 [.int .i64 x.Chain[k].Day, .string x.Chain[k].From, .string x.Chain[k].To, .int .i64 x.Chain[k].Seal] 77 := O3
    refine ops_nil ?_
    refine run_seq ?_
    refine run_region ?_
    refine ov (v := .agg #[.int .i64 x.Chain[k].Day, .string x.Chain[k].From, .string x.Chain[k].To, .int .i64 x.Chain[k].Seal]) (xloadN Try.isAgg77 Try.sizeOf77 rfl (O3.cells) rfl) rfl rfl rfl ?_
    refine oc (xcall Try.call117 rfl) rfl rfl rfl (isHanding_ok x.Chain[k] _ (hx3 _ (List.getElem_mem _))) ?_
    rintro _ w4 ⟨rfl, e4⟩
    have z4 := e4.size
    have E := E.trans e4
    replace O_b1 := O_b1.ext e4
    replace O3 := O3.ext e4
    refine obs (fun c13 => ?_) (fun c13 => ?_)
    ·
      refine ov (xnot rfl) rfl rfl rfl ?_
      refine ops_nil ?_
      refine run_cond_f rfl ?_
      refine run_skip ?_
      refine run_inBlock ?_
      refine run_region ?_
      refine ov (xadd rfl rfl (by unfold I64; omega)) rfl rfl rfl ?_
      refine ov (xmove rfl) rfl rfl rfl ?_
      refine ops_nil ?_
      refine run_sub ?_ (hback2 (k + 1, w4) (⟨E, O_b1, by omega, by omega, allB_succ ha (by rw [allI_of (by omega)]; assumption)⟩) (by first | omega | (dsimp only; omega)))
      exact ⟨rfl, rfl, rfl, rfl, trivial⟩
    ·
      refine ov (xnot rfl) rfl rfl rfl ?_
      refine ops_nil ?_
      refine run_cond_t rfl ?_
      refine run_seq ?_
      refine run_region ?_
      refine ov (xassign rfl) rfl rfl rfl ?_
      refine ops_nil ?_
      refine run_ret Try.func66 (res1 rfl rfl) ?_
      exact ⟨_, rfl, by rw [isExhibit, allB_false (i := k) (by omega) (by rw [allI_of (by omega)]; assumption)]; rfl, E⟩
  ·
    refine ops_nil ?_
    refine run_seq ?_
    refine run_cond_f rfl ?_
    refine run_exit rfl ?_
    refine run_seq ?_
    refine run_region ?_
    refine ov (xfieldAddr fo49f0 rfl) rfl rfl rfl ?_
    refine ov (v := .string x.Code) (xload1 Try.isAgg9 rfl (O_b1.cells) rfl) rfl rfl rfl ?_
    refine oc (xcall Try.call95 rfl) rfl rfl rfl (IsWord_ok (x.Code) _ (by first | assumption | omega)) ?_
    rintro _ w_ ⟨rfl, hw_⟩
    replace hw_ := hw_.symm
    subst hw_
    refine obs (fun c18 => ?_) (fun c18 => ?_)
    ·
      refine ov (xmove rfl) rfl rfl rfl ?_
      refine ov (xfieldAddr fo49f1 rfl) rfl rfl rfl ?_
      refine ov (v := .string x.Found) (xload1 Try.isAgg9 rfl (O_b1.cells) rfl) rfl rfl rfl ?_
      refine oc (xcall Try.call95 rfl) rfl rfl rfl (IsWord_ok (x.Found) _ (by first | assumption | omega)) ?_
      rintro _ w_ ⟨rfl, hw_⟩
      replace hw_ := hw_.symm
      subst hw_
      refine obs (fun c22 => ?_) (fun c22 => ?_)
      ·
        refine ov (xpick_t rfl rfl) rfl rfl rfl ?_
        refine ov (xmove rfl) rfl rfl rfl ?_
        refine ov (xfieldAddr fo49f2 rfl) rfl rfl rfl ?_
        refine ov (v := .int .i64 x.Day) (xload1 Try.isAgg2 rfl (O_b1.cells) rfl) rfl rfl rfl ?_
        refine oc (xcall Try.call96 rfl) rfl rfl rfl (isDay_ok (x.Day) _) ?_
        rintro _ w_ ⟨rfl, hw_⟩
        replace hw_ := hw_.symm
        subst hw_
        refine obs (fun c27 => ?_) (fun c27 => ?_)
        ·
          refine ov (xpick_t rfl rfl) rfl rfl rfl ?_
          refine ov (xmove rfl) rfl rfl rfl ?_
          refine ov (xfieldAddr fo49f3 rfl) rfl rfl rfl ?_
          refine ov (v := .int .i64 x.Seal) (xload1 Try.isAgg2 rfl (O_b1.cells) rfl) rfl rfl rfl ?_
          refine oc (xcall Try.call124 rfl) rfl rfl rfl (isNumber_ok (x.Seal) _) ?_
          rintro _ w_ ⟨rfl, hw_⟩
          replace hw_ := hw_.symm
          subst hw_
          refine obs (fun c32 => ?_) (fun c32 => ?_)
          ·
            refine ov (xpick_t rfl rfl) rfl rfl rfl ?_
            refine ov (xmove rfl) rfl rfl rfl ?_
            refine ov (xfieldAddr fo49f4 rfl) rfl rfl rfl ?_
            refine ov (v := .slice p n c) (xload1 Try.isAgg47 rfl (O_b1.cells) rfl) rfl rfl rfl ?_
            refine ov (xlen Try.underlying47 rfl) rfl rfl rfl ?_
            refine oc (xcall Try.call90 rfl) rfl rfl rfl (few_ok ((n : Int)) (12) _) ?_
            rintro _ w_ ⟨rfl, hw_⟩
            replace hw_ := hw_.symm
            subst hw_
            refine ov (xpick_t rfl rfl) rfl rfl rfl ?_
            refine ov (xassign rfl) rfl rfl rfl ?_
            refine ops_nil ?_
            refine run_ret Try.func66 (res1 rfl rfl) ?_
            obtain rfl : k = n := by omega
            rw [hn] at ha
            exact ⟨_, rfl, by rw [isExhibit, ha, Bool.true_and]; simp_all <;> omega, E⟩
          ·
            refine ov (xpick_t rfl rfl) rfl rfl rfl ?_
            refine ov (xmove rfl) rfl rfl rfl ?_
            refine og rfl rfl rfl ?_
            refine og rfl rfl rfl ?_
            refine og rfl rfl rfl ?_
            refine og rfl rfl rfl ?_
            refine ov (xpick_f rfl rfl) rfl rfl rfl ?_
            refine ov (xassign rfl) rfl rfl rfl ?_
            refine ops_nil ?_
            refine run_ret Try.func66 (res1 rfl rfl) ?_
            obtain rfl : k = n := by omega
            rw [hn] at ha
            exact ⟨_, rfl, by rw [isExhibit, ha, Bool.true_and]; simp_all <;> omega, E⟩
        ·
          refine ov (xpick_t rfl rfl) rfl rfl rfl ?_
          refine ov (xmove rfl) rfl rfl rfl ?_
          refine og rfl rfl rfl ?_
          refine og rfl rfl rfl ?_
          refine og rfl rfl rfl ?_
          refine ov (xpick_f rfl rfl) rfl rfl rfl ?_
          refine ov (xmove rfl) rfl rfl rfl ?_
          refine og rfl rfl rfl ?_
          refine og rfl rfl rfl ?_
          refine og rfl rfl rfl ?_
          refine og rfl rfl rfl ?_
          refine ov (xpick_f rfl rfl) rfl rfl rfl ?_
          refine ov (xassign rfl) rfl rfl rfl ?_
          refine ops_nil ?_
          refine run_ret Try.func66 (res1 rfl rfl) ?_
          obtain rfl : k = n := by omega
          rw [hn] at ha
          exact ⟨_, rfl, by rw [isExhibit, ha, Bool.true_and]; simp_all <;> omega, E⟩
      ·
        refine ov (xpick_t rfl rfl) rfl rfl rfl ?_
        refine ov (xmove rfl) rfl rfl rfl ?_
        refine og rfl rfl rfl ?_
        refine og rfl rfl rfl ?_
        refine og rfl rfl rfl ?_
        refine ov (xpick_f rfl rfl) rfl rfl rfl ?_
        refine ov (xmove rfl) rfl rfl rfl ?_
        refine og rfl rfl rfl ?_
        refine og rfl rfl rfl ?_
        refine og rfl rfl rfl ?_
        refine ov (xpick_f rfl rfl) rfl rfl rfl ?_
        refine ov (xmove rfl) rfl rfl rfl ?_
        refine og rfl rfl rfl ?_
        refine og rfl rfl rfl ?_
        refine og rfl rfl rfl ?_
        refine og rfl rfl rfl ?_
        refine ov (xpick_f rfl rfl) rfl rfl rfl ?_
        refine ov (xassign rfl) rfl rfl rfl ?_
        refine ops_nil ?_
        refine run_ret Try.func66 (res1 rfl rfl) ?_
        obtain rfl : k = n := by omega
        rw [hn] at ha
        exact ⟨_, rfl, by rw [isExhibit, ha, Bool.true_and]; simp_all <;> omega, E⟩
    ·
      refine ov (xmove rfl) rfl rfl rfl ?_
      refine og rfl rfl rfl ?_
      refine og rfl rfl rfl ?_
      refine og rfl rfl rfl ?_
      refine ov (xpick_f rfl rfl) rfl rfl rfl ?_
      refine ov (xmove rfl) rfl rfl rfl ?_
      refine og rfl rfl rfl ?_
      refine og rfl rfl rfl ?_
      refine og rfl rfl rfl ?_
      refine ov (xpick_f rfl rfl) rfl rfl rfl ?_
      refine ov (xmove rfl) rfl rfl rfl ?_
      refine og rfl rfl rfl ?_
      refine og rfl rfl rfl ?_
      refine og rfl rfl rfl ?_
      refine ov (xpick_f rfl rfl) rfl rfl rfl ?_
      refine ov (xmove rfl) rfl rfl rfl ?_
      refine og rfl rfl rfl ?_
      refine og rfl rfl rfl ?_
      refine og rfl rfl rfl ?_
      refine og rfl rfl rfl ?_
      refine ov (xpick_f rfl rfl) rfl rfl rfl ?_
      refine ov (xassign rfl) rfl rfl rfl ?_
      refine ops_nil ?_
      refine run_ret Try.func66 (res1 rfl rfl) ?_
      obtain rfl : k = n := by omega
      rw [hn] at ha
      exact ⟨_, rfl, by rw [isExhibit, ha, Bool.true_and]; simp_all <;> omega, E⟩

set_option maxHeartbeats 400000 in
theorem sIsExhibit_ok (p : Option Addr) (n c : Nat) (x : Exhibit) (w : World) (H : Sl Handing.cells 4 w p n c x.Chain) (hx : exSmall x) : Ret Try.prog 101 [.agg #[.string x.Code, .string x.Found, .int .i64 x.Day, .int .i64 x.Seal, .slice p n c]] w (Pv w (.bool (isExhibit x))) := by
  refine ret_of_run (N := 42) Try.func101 rfl rfl rfl ?_
  have hn := H.len
  have hn6 := H.n64
  obtain ⟨hx1, hx2, hx3⟩ := hx
  have E : Ext w w := Ext.refl w
  refine run_seq ?_
  refine run_region ?_
  refine obox rfl rfl rfl ?_
  intro b1 w1 e1 hb1 hz1 O1
  have E := E.trans e1
  replace O1 : Own w1 b1 [.string x.Code, .string x.Found, .int .i64 x.Day, .int .i64 x.Seal, .slice p n c] 49 := O1
  refine ov (xassign rfl) rfl rfl rfl ?_
  refine ops_nil ?_
  refine run_seq ?_
  refine run_seq ?_
  refine run_region ?_
  refine ov (xassign rfl) rfl rfl rfl ?_
  refine ops_nil ?_
  refine run_block ?_
  refine run_loop (ι := Nat × World) (fun x_ => match x_ with | (k, wr) => (Ext w wr) ∧ (Own wr b1 ([.string x.Code, .string x.Found, .int .i64 x.Day, .int .i64 x.Seal, .slice p n c]) 49) ∧ (w1.heap.size ≤ wr.heap.size) ∧ (k ≤ n) ∧ (allB k (allI (fun _ h => isHanding h) x.Chain) = true)) (fun x_ => match x_ with | (k, wr) => [(1, .pointer (some ⟨b1, 0, none⟩)), (3, .int .i64 (k : Int))]) (fun x_ => match x_ with | (k, wr) => wr) (fun x_ => match x_ with | (k, wr) => n - k) ?_ (0, w1) (⟨E, O1, Nat.le_refl _, by omega, allB_zero⟩) ⟨rfl, rfl, trivial⟩ rfl
  intro i_ hI_ hback2
  obtain ⟨k, wr⟩ := i_
  obtain ⟨E, O_b1, lz_wr, hk, ha⟩ := hI_
  try dsimp only
  have zr := E.size
  have lt_b1 := O_b1.lt
  refine run_seq ?_
  refine run_seq ?_
  refine run_region ?_
  refine ov (xmove rfl) rfl rfl rfl ?_
  refine ov (xfieldAddr fo49f4 rfl) rfl rfl rfl ?_
  refine ov (v := .slice p n c) (xload1 Try.isAgg47 rfl (O_b1.cells) rfl) rfl rfl rfl ?_
  refine ov (xlen Try.underlying47 rfl) rfl rfl rfl ?_
  refine ov (xlss rfl rfl _ rfl) rfl rfl rfl ?_
  refine ods (fun c8 => ?_) (fun c8 => ?_)
  ·
    refine ops_nil ?_
    refine run_cond_t rfl ?_
    refine run_skip ?_
    refine run_seq ?_
    refine run_block ?_
    refine run_seq ?_
    refine run_region ?_
    refine ov (xfieldAddr fo49f4 rfl) rfl rfl rfl ?_
    refine ov (v := .slice p n c) (xload1 Try.isAgg47 rfl (O_b1.cells) rfl) rfl rfl rfl ?_
    refine ov (xmove rfl) rfl rfl rfl ?_
    have h14 := (H.ext E).at (i := k) (by omega)
    refine ov (xindexN (i := k) Try.underlying47 Try.sizeOf77 rfl rfl rfl ((H.ext E).p (i := k) (by omega)) (by have := (H.ext E).len; omega)) rfl rfl rfl ?_
    refine ov (v := .agg #[.int .i64 x.Chain[k].Day, .string x.Chain[k].From, .string x.Chain[k].To, .int .i64 x.Chain[k].Seal]) (xloadN Try.isAgg77 Try.sizeOf77 rfl (h14) rfl) rfl rfl rfl ?_
    refine oc (xcall Try.call116 rfl) rfl rfl rfl (l23Handing_ok x.Chain[k] _ (hx3 _ (List.getElem_mem _))) ?_
    rintro _ w2 ⟨rfl, e2⟩
    have z2 := e2.size
    have E := E.trans e2
    replace O_b1 := O_b1.ext e2
    refine obs (fun c16 => ?_) (fun c16 => ?_)
    ·
      refine ov (xnot rfl) rfl rfl rfl ?_
      refine ops_nil ?_
      refine run_cond_f rfl ?_
      refine run_skip ?_
      refine run_inBlock ?_
      refine run_region ?_
      refine ov (xmove rfl) rfl rfl rfl ?_
      refine ov (xadd rfl rfl (by unfold I64; omega)) rfl rfl rfl ?_
      refine ov (xassign rfl) rfl rfl rfl ?_
      refine ops_nil ?_
      refine run_sub ?_ (hback2 (k + 1, w2) (⟨E, O_b1, by omega, by omega, allB_succ ha (by rw [allI_of (by omega)]; assumption)⟩) (by first | omega | (dsimp only; omega)))
      exact ⟨rfl, rfl, trivial⟩
    ·
      refine ov (xnot rfl) rfl rfl rfl ?_
      refine ops_nil ?_
      refine run_cond_t rfl ?_
      refine run_seq ?_
      refine run_region ?_
      refine ov (xassign rfl) rfl rfl rfl ?_
      refine ops_nil ?_
      refine run_ret Try.func101 (res1 rfl rfl) ?_
      exact ⟨_, rfl, by rw [isExhibit, allB_false (i := k) (by omega) (by rw [allI_of (by omega)]; assumption)]; rfl, E⟩
  ·
    refine ops_nil ?_
    refine run_cond_f rfl ?_
    refine run_exit rfl ?_
    refine run_seq ?_
    refine run_region ?_
    refine ov (xfieldAddr fo49f0 rfl) rfl rfl rfl ?_
    refine ov (v := .string x.Code) (xload1 Try.isAgg9 rfl (O_b1.cells) rfl) rfl rfl rfl ?_
    refine oc (xcall Try.call92 rfl) rfl rfl rfl (sIsWord_ok (x.Code) _ (by first | assumption | omega)) ?_
    rintro _ w_ ⟨rfl, hw_⟩
    replace hw_ := hw_.symm
    subst hw_
    refine obs (fun c20 => ?_) (fun c20 => ?_)
    ·
      refine ov (xmove rfl) rfl rfl rfl ?_
      refine ov (xfieldAddr fo49f1 rfl) rfl rfl rfl ?_
      refine ov (v := .string x.Found) (xload1 Try.isAgg9 rfl (O_b1.cells) rfl) rfl rfl rfl ?_
      refine oc (xcall Try.call92 rfl) rfl rfl rfl (sIsWord_ok (x.Found) _ (by first | assumption | omega)) ?_
      rintro _ w_ ⟨rfl, hw_⟩
      replace hw_ := hw_.symm
      subst hw_
      refine obs (fun c24 => ?_) (fun c24 => ?_)
      ·
        refine ov (xpick_t rfl rfl) rfl rfl rfl ?_
        refine ov (xmove rfl) rfl rfl rfl ?_
        refine ov (xfieldAddr fo49f2 rfl) rfl rfl rfl ?_
        refine ov (v := .int .i64 x.Day) (xload1 Try.isAgg2 rfl (O_b1.cells) rfl) rfl rfl rfl ?_
        refine oc (xcall Try.call93 rfl) rfl rfl rfl (l02Is_ok (x.Day) _) ?_
        rintro _ w_ ⟨rfl, hw_⟩
        replace hw_ := hw_.symm
        subst hw_
        refine obs (fun c29 => ?_) (fun c29 => ?_)
        ·
          refine ov (xpick_t rfl rfl) rfl rfl rfl ?_
          refine ov (xmove rfl) rfl rfl rfl ?_
          refine ov (xfieldAddr fo49f3 rfl) rfl rfl rfl ?_
          refine ov (v := .int .i64 x.Seal) (xload1 Try.isAgg2 rfl (O_b1.cells) rfl) rfl rfl rfl ?_
          refine oc (xcall Try.call135 rfl) rfl rfl rfl (l01In_ok (x.Seal) (1) (1000000) _) ?_
          rintro _ w_ ⟨rfl, hw_⟩
          replace hw_ := hw_.symm
          subst hw_
          refine obs (fun c34 => ?_) (fun c34 => ?_)
          ·
            refine ov (xpick_t rfl rfl) rfl rfl rfl ?_
            refine ov (xmove rfl) rfl rfl rfl ?_
            refine ov (xfieldAddr fo49f4 rfl) rfl rfl rfl ?_
            refine ov (v := .slice p n c) (xload1 Try.isAgg47 rfl (O_b1.cells) rfl) rfl rfl rfl ?_
            refine ov (xlen Try.underlying47 rfl) rfl rfl rfl ?_
            refine ov (xleq rfl rfl _ rfl) rfl rfl rfl ?_
            refine ov (xpick_t rfl rfl) rfl rfl rfl ?_
            refine ov (xassign rfl) rfl rfl rfl ?_
            refine ops_nil ?_
            refine run_ret Try.func101 (res1 rfl rfl) ?_
            obtain rfl : k = n := by omega
            rw [hn] at ha
            exact ⟨_, rfl, by rw [isExhibit, ha, Bool.true_and]; simp_all <;> omega, E⟩
          ·
            refine ov (xpick_t rfl rfl) rfl rfl rfl ?_
            refine ov (xmove rfl) rfl rfl rfl ?_
            refine og rfl rfl rfl ?_
            refine og rfl rfl rfl ?_
            refine og rfl rfl rfl ?_
            refine og rfl rfl rfl ?_
            refine ov (xpick_f rfl rfl) rfl rfl rfl ?_
            refine ov (xassign rfl) rfl rfl rfl ?_
            refine ops_nil ?_
            refine run_ret Try.func101 (res1 rfl rfl) ?_
            obtain rfl : k = n := by omega
            rw [hn] at ha
            exact ⟨_, rfl, by rw [isExhibit, ha, Bool.true_and]; simp_all <;> omega, E⟩
        ·
          refine ov (xpick_t rfl rfl) rfl rfl rfl ?_
          refine ov (xmove rfl) rfl rfl rfl ?_
          refine og rfl rfl rfl ?_
          refine og rfl rfl rfl ?_
          refine og rfl rfl rfl ?_
          refine ov (xpick_f rfl rfl) rfl rfl rfl ?_
          refine ov (xmove rfl) rfl rfl rfl ?_
          refine og rfl rfl rfl ?_
          refine og rfl rfl rfl ?_
          refine og rfl rfl rfl ?_
          refine og rfl rfl rfl ?_
          refine ov (xpick_f rfl rfl) rfl rfl rfl ?_
          refine ov (xassign rfl) rfl rfl rfl ?_
          refine ops_nil ?_
          refine run_ret Try.func101 (res1 rfl rfl) ?_
          obtain rfl : k = n := by omega
          rw [hn] at ha
          exact ⟨_, rfl, by rw [isExhibit, ha, Bool.true_and]; simp_all <;> omega, E⟩
      ·
        refine ov (xpick_t rfl rfl) rfl rfl rfl ?_
        refine ov (xmove rfl) rfl rfl rfl ?_
        refine og rfl rfl rfl ?_
        refine og rfl rfl rfl ?_
        refine og rfl rfl rfl ?_
        refine ov (xpick_f rfl rfl) rfl rfl rfl ?_
        refine ov (xmove rfl) rfl rfl rfl ?_
        refine og rfl rfl rfl ?_
        refine og rfl rfl rfl ?_
        refine og rfl rfl rfl ?_
        refine ov (xpick_f rfl rfl) rfl rfl rfl ?_
        refine ov (xmove rfl) rfl rfl rfl ?_
        refine og rfl rfl rfl ?_
        refine og rfl rfl rfl ?_
        refine og rfl rfl rfl ?_
        refine og rfl rfl rfl ?_
        refine ov (xpick_f rfl rfl) rfl rfl rfl ?_
        refine ov (xassign rfl) rfl rfl rfl ?_
        refine ops_nil ?_
        refine run_ret Try.func101 (res1 rfl rfl) ?_
        obtain rfl : k = n := by omega
        rw [hn] at ha
        exact ⟨_, rfl, by rw [isExhibit, ha, Bool.true_and]; simp_all <;> omega, E⟩
    ·
      refine ov (xmove rfl) rfl rfl rfl ?_
      refine og rfl rfl rfl ?_
      refine og rfl rfl rfl ?_
      refine og rfl rfl rfl ?_
      refine ov (xpick_f rfl rfl) rfl rfl rfl ?_
      refine ov (xmove rfl) rfl rfl rfl ?_
      refine og rfl rfl rfl ?_
      refine og rfl rfl rfl ?_
      refine og rfl rfl rfl ?_
      refine ov (xpick_f rfl rfl) rfl rfl rfl ?_
      refine ov (xmove rfl) rfl rfl rfl ?_
      refine og rfl rfl rfl ?_
      refine og rfl rfl rfl ?_
      refine og rfl rfl rfl ?_
      refine ov (xpick_f rfl rfl) rfl rfl rfl ?_
      refine ov (xmove rfl) rfl rfl rfl ?_
      refine og rfl rfl rfl ?_
      refine og rfl rfl rfl ?_
      refine og rfl rfl rfl ?_
      refine og rfl rfl rfl ?_
      refine ov (xpick_f rfl rfl) rfl rfl rfl ?_
      refine ov (xassign rfl) rfl rfl rfl ?_
      refine ops_nil ?_
      refine run_ret Try.func101 (res1 rfl rfl) ?_
      obtain rfl : k = n := by omega
      rw [hn] at ha
      exact ⟨_, rfl, by rw [isExhibit, ha, Bool.true_and]; simp_all <;> omega, E⟩

set_option maxHeartbeats 400000 in
theorem holder_ok (p : Option Addr) (n c : Nat) (x : Exhibit) (w : World) (H : Sl Handing.cells 4 w p n c x.Chain) (k : Nat) (hk : k ≤ n) : Ret Try.prog 107 [.agg #[.string x.Code, .string x.Found, .int .i64 x.Day, .int .i64 x.Seal, .slice p n c], .int .i64 (k : Int)] w (Pv w (.string (hold x k))) := by
  refine ret_of_run (N := 16) Try.func107 rfl rfl rfl ?_
  have hn := H.len
  have hn6 := H.n64
  have E : Ext w w := Ext.refl w
  refine run_seq ?_
  refine run_region ?_
  refine obox rfl rfl rfl ?_
  intro b1 w1 e1 hb1 hz1 O1
  have E := E.trans e1
  replace O1 : Own w1 b1 [.string x.Code, .string x.Found, .int .i64 x.Day, .int .i64 x.Seal, .slice p n c] 49 := O1
  refine ov (xassign rfl) rfl rfl rfl ?_
  refine ops_nil ?_
  refine run_seq ?_
  refine run_seq ?_
  refine run_region ?_
  refine ov (xmove rfl) rfl rfl rfl ?_
  refine ov (xeql rfl rfl _ rfl) rfl rfl rfl ?_
  refine ods (fun c6 => ?_) (fun c6 => ?_)
  ·
    refine ops_nil ?_
    refine run_cond_t rfl ?_
    refine run_seq ?_
    refine run_region ?_
    refine ov (xfieldAddr fo49f1 rfl) rfl rfl rfl ?_
    refine ov (v := .string x.Found) (xload1 Try.isAgg9 rfl (O1.cells) rfl) rfl rfl rfl ?_
    refine ov (xassign rfl) rfl rfl rfl ?_
    refine ops_nil ?_
    refine run_ret Try.func107 (res1 rfl rfl) ?_
    obtain rfl : k = 0 := by omega
    exact ⟨_, rfl, by rw [hold, if_pos rfl], E⟩
  ·
    refine ops_nil ?_
    refine run_cond_f rfl ?_
    refine run_skip ?_
    refine run_seq ?_
    refine run_region ?_
    refine ov (xfieldAddr fo49f4 rfl) rfl rfl rfl ?_
    refine ov (v := .slice p n c) (xload1 Try.isAgg47 rfl (O1.cells) rfl) rfl rfl rfl ?_
    refine ov (xmove rfl) rfl rfl rfl ?_
    refine ov (xsub rfl rfl (by unfold I64; omega)) rfl rfl rfl ?_
    have h13 := (H.ext E).at (i := k - 1) (by omega)
    refine ov (xindexN (i := k - 1) Try.underlying47 Try.sizeOf77 rfl rfl (by omega) ((H.ext E).p (i := k - 1) (by omega)) (by have := (H.ext E).len; omega)) rfl rfl rfl ?_
    refine ov (xfieldAddr fo77f2 rfl) rfl rfl rfl ?_
    refine ov (v := .string x.Chain[k - 1].To) (xload1 Try.isAgg9 rfl (h13) rfl) rfl rfl rfl ?_
    refine ov (xassign rfl) rfl rfl rfl ?_
    refine ops_nil ?_
    refine run_ret Try.func107 (res1 rfl rfl) ?_
    exact ⟨_, rfl, by rw [hold_pos (by omega) (by omega)], E⟩

set_option maxHeartbeats 400000 in
theorem past_ok (p : Option Addr) (n c : Nat) (x : Exhibit) (w : World) (H : Sl Handing.cells 4 w p n c x.Chain) (day : Int) : Ret Try.prog 106 [.agg #[.string x.Code, .string x.Found, .int .i64 x.Day, .int .i64 x.Seal, .slice p n c], .int .i64 day] w (Pv w (.int .i64 (past x day : Int))) := by
  refine ret_of_run (N := 24) Try.func106 rfl rfl rfl ?_
  have hn := H.len
  have hn6 := H.n64
  have E : Ext w w := Ext.refl w
  refine run_seq ?_
  refine run_region ?_
  refine obox rfl rfl rfl ?_
  intro b1 w1 e1 hb1 hz1 O1
  have E := E.trans e1
  replace O1 : Own w1 b1 [.string x.Code, .string x.Found, .int .i64 x.Day, .int .i64 x.Seal, .slice p n c] 49 := O1
  refine ov (xassign rfl) rfl rfl rfl ?_
  refine ops_nil ?_
  refine run_seq ?_
  refine run_region ?_
  refine ov (xassign rfl) rfl rfl rfl ?_
  refine ops_nil ?_
  refine run_seq ?_
  refine run_block ?_
  refine run_loop (ι := Nat × World) (fun x_ => match x_ with | (k, wr) => (Ext w wr) ∧ (Own wr b1 ([.string x.Code, .string x.Found, .int .i64 x.Day, .int .i64 x.Seal, .slice p n c]) 49) ∧ (w1.heap.size ≤ wr.heap.size) ∧ (k ≤ n) ∧ (past x day = tw x day k)) (fun x_ => match x_ with | (k, wr) => [(1, .int .i64 day), (2, .pointer (some ⟨b1, 0, none⟩)), (5, .int .i64 (k : Int))]) (fun x_ => match x_ with | (k, wr) => wr) (fun x_ => match x_ with | (k, wr) => n - k) ?_ (0, w1) (⟨E, O1, Nat.le_refl _, by omega, tw_zero x day⟩) ⟨rfl, rfl, rfl, trivial⟩ rfl
  intro i_ hI_ hback2
  obtain ⟨k, wr⟩ := i_
  obtain ⟨E, O_b1, lz_wr, hk, ht⟩ := hI_
  try dsimp only
  have zr := E.size
  have lt_b1 := O_b1.lt
  refine run_seq ?_
  refine run_seq ?_
  refine run_region ?_
  refine ov (xmove rfl) rfl rfl rfl ?_
  refine ov (xfieldAddr fo49f4 rfl) rfl rfl rfl ?_
  refine ov (v := .slice p n c) (xload1 Try.isAgg47 rfl (O_b1.cells) rfl) rfl rfl rfl ?_
  refine ov (xlen Try.underlying47 rfl) rfl rfl rfl ?_
  refine ov (xlss rfl rfl _ rfl) rfl rfl rfl ?_
  refine ods (fun c10 => ?_) (fun c10 => ?_)
  ·
    refine ov (xmove rfl) rfl rfl rfl ?_
    refine ov (xfieldAddr fo49f4 rfl) rfl rfl rfl ?_
    refine ov (v := .slice p n c) (xload1 Try.isAgg47 rfl (O_b1.cells) rfl) rfl rfl rfl ?_
    refine ov (xmove rfl) rfl rfl rfl ?_
    have h15 := (H.ext E).at (i := k) (by omega)
    refine ov (xindexN (i := k) Try.underlying47 Try.sizeOf77 rfl rfl rfl ((H.ext E).p (i := k) (by omega)) (by have := (H.ext E).len; omega)) rfl rfl rfl ?_
    refine ov (xfieldAddr fo77f0 rfl) rfl rfl rfl ?_
    refine ov (v := .int .i64 x.Chain[k].Day) (xload1 Try.isAgg2 rfl (h15) rfl) rfl rfl rfl ?_
    refine ov (xmove rfl) rfl rfl rfl ?_
    refine ov (xleq rfl rfl _ rfl) rfl rfl rfl ?_
    refine ods (fun c19 => ?_) (fun c19 => ?_)
    ·
      refine ov (xpick_t rfl rfl) rfl rfl rfl ?_
      refine ops_nil ?_
      refine run_cond_t rfl ?_
      refine run_skip ?_
      refine run_block ?_
      refine run_region ?_
      refine ov (xmove rfl) rfl rfl rfl ?_
      refine ov (xadd rfl rfl (by unfold I64; omega)) rfl rfl rfl ?_
      refine ov (xassign rfl) rfl rfl rfl ?_
      refine ops_nil ?_
      refine run_inBlock ?_
      refine run_sub ?_ (hback2 (k + 1, wr) (⟨E, O_b1, by omega, by omega, by rw [ht, tw_step (by omega) (by assumption)]⟩) (by first | omega | (dsimp only; omega)))
      exact ⟨rfl, rfl, rfl, trivial⟩
    ·
      refine ov (xpick_t rfl rfl) rfl rfl rfl ?_
      refine ops_nil ?_
      refine run_cond_f rfl ?_
      refine run_exit rfl ?_
      refine run_seq ?_
      refine run_region ?_
      refine ov (xmove rfl) rfl rfl rfl ?_
      refine ov (xassign rfl) rfl rfl rfl ?_
      refine ops_nil ?_
      refine run_ret Try.func106 (res1 rfl rfl) ?_
      exact ⟨_, rfl, by rw [ht, tw_stop (by omega) (by assumption)], E⟩
  ·
    refine ov (xmove rfl) rfl rfl rfl ?_
    refine og rfl rfl rfl ?_
    refine og rfl rfl rfl ?_
    refine og rfl rfl rfl ?_
    refine og rfl rfl rfl ?_
    refine og rfl rfl rfl ?_
    refine og rfl rfl rfl ?_
    refine og rfl rfl rfl ?_
    refine og rfl rfl rfl ?_
    refine ov (xpick_f rfl rfl) rfl rfl rfl ?_
    refine ops_nil ?_
    refine run_cond_f rfl ?_
    refine run_exit rfl ?_
    refine run_seq ?_
    refine run_region ?_
    refine ov (xmove rfl) rfl rfl rfl ?_
    refine ov (xassign rfl) rfl rfl rfl ?_
    refine ops_nil ?_
    refine run_ret Try.func106 (res1 rfl rfl) ?_
    exact ⟨_, rfl, by rw [ht, tw_end (by omega)], E⟩

set_option maxHeartbeats 400000 in
theorem l23Holder_ok (p : Option Addr) (n c : Nat) (x : Exhibit) (w : World) (H : Sl Handing.cells 4 w p n c x.Chain) (day : Int) : Ret Try.prog 102 [.agg #[.string x.Code, .string x.Found, .int .i64 x.Day, .int .i64 x.Seal, .slice p n c], .int .i64 day] w (Pv w (.tuple #[.string (hold x (past x day)), .int .i64 (past x day : Int)])) := by
  refine ret_of_run (N := 35) Try.func102 rfl rfl rfl ?_
  have hn := H.len
  have hn6 := H.n64
  have E : Ext w w := Ext.refl w
  refine run_seq ?_
  refine run_region ?_
  refine obox rfl rfl rfl ?_
  intro b1 w1 e1 hb1 hz1 O1
  have E := E.trans e1
  replace O1 : Own w1 b1 [.string x.Code, .string x.Found, .int .i64 x.Day, .int .i64 x.Seal, .slice p n c] 49 := O1
  refine ov (xassign rfl) rfl rfl rfl ?_
  refine ov (xassign rfl) rfl rfl rfl ?_
  refine ops_nil ?_
  refine run_seq ?_
  refine run_region ?_
  refine ov (xfieldAddr fo49f1 rfl) rfl rfl rfl ?_
  refine ov (v := .string x.Found) (xload1 Try.isAgg9 rfl (O1.cells) rfl) rfl rfl rfl ?_
  refine ov (xassign rfl) rfl rfl rfl ?_
  refine ov (xassign rfl) rfl rfl rfl ?_
  refine ops_nil ?_
  refine run_seq ?_
  refine run_block ?_
  refine run_loop (ι := Nat × World) (fun x_ => match x_ with | (k, wr) => (Ext w wr) ∧ (Own wr b1 ([.string x.Code, .string x.Found, .int .i64 x.Day, .int .i64 x.Seal, .slice p n c]) 49) ∧ (w1.heap.size ≤ wr.heap.size) ∧ (k ≤ n) ∧ (past x day = tw x day k)) (fun x_ => match x_ with | (k, wr) => [(1, .int .i64 day), (2, .pointer (some ⟨b1, 0, none⟩)), (6, .string (hold x k)), (7, .int .i64 (k : Int))]) (fun x_ => match x_ with | (k, wr) => wr) (fun x_ => match x_ with | (k, wr) => n - k) ?_ (0, w1) (⟨E, O1, Nat.le_refl _, by omega, tw_zero x day⟩) ⟨rfl, rfl, rfl, rfl, trivial⟩ rfl
  intro i_ hI_ hback2
  obtain ⟨k, wr⟩ := i_
  obtain ⟨E, O_b1, lz_wr, hk, ht⟩ := hI_
  try dsimp only
  have zr := E.size
  have lt_b1 := O_b1.lt
  refine run_seq ?_
  refine run_seq ?_
  refine run_region ?_
  refine ov (xmove rfl) rfl rfl rfl ?_
  refine ov (xfieldAddr fo49f4 rfl) rfl rfl rfl ?_
  refine ov (v := .slice p n c) (xload1 Try.isAgg47 rfl (O_b1.cells) rfl) rfl rfl rfl ?_
  refine ov (xlen Try.underlying47 rfl) rfl rfl rfl ?_
  refine ov (xlss rfl rfl _ rfl) rfl rfl rfl ?_
  refine ods (fun c14 => ?_) (fun c14 => ?_)
  ·
    refine ov (xmove rfl) rfl rfl rfl ?_
    refine ov (xfieldAddr fo49f4 rfl) rfl rfl rfl ?_
    refine ov (v := .slice p n c) (xload1 Try.isAgg47 rfl (O_b1.cells) rfl) rfl rfl rfl ?_
    refine ov (xmove rfl) rfl rfl rfl ?_
    have h19 := (H.ext E).at (i := k) (by omega)
    refine ov (xindexN (i := k) Try.underlying47 Try.sizeOf77 rfl rfl rfl ((H.ext E).p (i := k) (by omega)) (by have := (H.ext E).len; omega)) rfl rfl rfl ?_
    refine ov (xfieldAddr fo77f0 rfl) rfl rfl rfl ?_
    refine ov (v := .int .i64 x.Chain[k].Day) (xload1 Try.isAgg2 rfl (h19) rfl) rfl rfl rfl ?_
    refine ov (xmove rfl) rfl rfl rfl ?_
    refine ov (xleq rfl rfl _ rfl) rfl rfl rfl ?_
    refine ods (fun c23 => ?_) (fun c23 => ?_)
    ·
      refine ov (xpick_t rfl rfl) rfl rfl rfl ?_
      refine ops_nil ?_
      refine run_cond_t rfl ?_
      refine run_skip ?_
      refine run_block ?_
      refine run_seq ?_
      refine run_region ?_
      refine ov (xfieldAddr fo49f4 rfl) rfl rfl rfl ?_
      refine ov (v := .slice p n c) (xload1 Try.isAgg47 rfl (O_b1.cells) rfl) rfl rfl rfl ?_
      refine ov (xmove rfl) rfl rfl rfl ?_
      have h28 := (H.ext E).at (i := k) (by omega)
      refine ov (xindexN (i := k) Try.underlying47 Try.sizeOf77 rfl rfl rfl ((H.ext E).p (i := k) (by omega)) (by have := (H.ext E).len; omega)) rfl rfl rfl ?_
      refine ov (xfieldAddr fo77f2 rfl) rfl rfl rfl ?_
      refine ov (v := .string x.Chain[k].To) (xload1 Try.isAgg9 rfl (h28) rfl) rfl rfl rfl ?_
      refine ov (xassign rfl) rfl rfl rfl ?_
      refine ops_nil ?_
      refine run_region ?_
      refine ov (xmove rfl) rfl rfl rfl ?_
      refine ov (xadd rfl rfl (by unfold I64; omega)) rfl rfl rfl ?_
      refine ov (xassign rfl) rfl rfl rfl ?_
      refine ops_nil ?_
      refine run_inBlock ?_
      rw [← hold_succ (x := x) (k := k) (by omega)] 
      refine run_sub ?_ (hback2 (k + 1, wr) (⟨E, O_b1, by omega, by omega, by rw [ht, tw_step (by omega) (by assumption)]⟩) (by first | omega | (dsimp only; omega)))
      exact ⟨rfl, rfl, rfl, rfl, trivial⟩
    ·
      refine ov (xpick_t rfl rfl) rfl rfl rfl ?_
      refine ops_nil ?_
      refine run_cond_f rfl ?_
      refine run_exit rfl ?_
      refine run_seq ?_
      refine run_region ?_
      refine ov (xmove rfl) rfl rfl rfl ?_
      refine ov (xmove rfl) rfl rfl rfl ?_
      refine ov (xassign rfl) rfl rfl rfl ?_
      refine ov (xassign rfl) rfl rfl rfl ?_
      refine ops_nil ?_
      refine run_ret Try.func102 (res2 rfl rfl rfl) ?_
      exact ⟨_, rfl, by rw [ht, tw_stop (by omega) (by assumption)], E⟩
  ·
    refine ov (xmove rfl) rfl rfl rfl ?_
    refine og rfl rfl rfl ?_
    refine og rfl rfl rfl ?_
    refine og rfl rfl rfl ?_
    refine og rfl rfl rfl ?_
    refine og rfl rfl rfl ?_
    refine og rfl rfl rfl ?_
    refine og rfl rfl rfl ?_
    refine og rfl rfl rfl ?_
    refine ov (xpick_f rfl rfl) rfl rfl rfl ?_
    refine ops_nil ?_
    refine run_cond_f rfl ?_
    refine run_exit rfl ?_
    refine run_seq ?_
    refine run_region ?_
    refine ov (xmove rfl) rfl rfl rfl ?_
    refine ov (xmove rfl) rfl rfl rfl ?_
    refine ov (xassign rfl) rfl rfl rfl ?_
    refine ov (xassign rfl) rfl rfl rfl ?_
    refine ops_nil ?_
    refine run_ret Try.func102 (res2 rfl rfl rfl) ?_
    exact ⟨_, rfl, by rw [ht, tw_end (by omega)], E⟩

set_option maxHeartbeats 400000 in
theorem firstBreak_ok (p : Option Addr) (n c : Nat) (x : Exhibit) (w : World) (H : Sl Handing.cells 4 w p n c x.Chain) : Ret Try.prog 105 [.agg #[.string x.Code, .string x.Found, .int .i64 x.Day, .int .i64 x.Seal, .slice p n c]] w (Pv w (.int .i64 (brk x : Int))) := by
  refine ret_of_run (N := 42) Try.func105 rfl rfl rfl ?_
  have hn := H.len
  have hn6 := H.n64
  have E : Ext w w := Ext.refl w
  refine run_seq ?_
  refine run_region ?_
  refine obox rfl rfl rfl ?_
  intro b1 w1 e1 hb1 hz1 O1
  have E := E.trans e1
  replace O1 : Own w1 b1 [.string x.Code, .string x.Found, .int .i64 x.Day, .int .i64 x.Seal, .slice p n c] 49 := O1
  refine ov (xassign rfl) rfl rfl rfl ?_
  refine ops_nil ?_
  refine run_seq ?_
  refine run_region ?_
  refine ov (xfieldAddr fo49f2 rfl) rfl rfl rfl ?_
  refine ov (v := .int .i64 x.Day) (xload1 Try.isAgg2 rfl (O1.cells) rfl) rfl rfl rfl ?_
  refine ov (xassign rfl) rfl rfl rfl ?_
  refine ops_nil ?_
  refine run_seq ?_
  refine run_seq ?_
  refine run_region ?_
  refine ov (xfieldAddr fo49f4 rfl) rfl rfl rfl ?_
  refine ov (v := .slice p n c) (xload1 Try.isAgg47 rfl (O1.cells) rfl) rfl rfl rfl ?_
  refine ov (xlen Try.underlying47 rfl) rfl rfl rfl ?_
  refine ov (xmove rfl) rfl rfl rfl ?_
  refine ops_nil ?_
  refine run_block ?_
  refine run_loop (ι := Nat × Int × World) (fun x_ => match x_ with | (k, dd, wr) => (Ext w wr) ∧ (Own wr b1 ([.string x.Code, .string x.Found, .int .i64 x.Day, .int .i64 x.Seal, .slice p n c]) 49) ∧ (w1.heap.size ≤ wr.heap.size) ∧ (k ≤ n) ∧ (brk x = brkGo (hold x k) dd k (x.Chain.drop k))) (fun x_ => match x_ with | (k, dd, wr) => [(1, .pointer (some ⟨b1, 0, none⟩)), (3, .int .i64 dd), (9, .slice p n c), (10, .int .i64 (n : Int)), (11, .int .i64 (k : Int))]) (fun x_ => match x_ with | (k, dd, wr) => wr) (fun x_ => match x_ with | (k, dd, wr) => n - k) ?_ (0, x.Day, w1) (⟨E, O1, Nat.le_refl _, by omega, by rfl⟩) ⟨rfl, rfl, rfl, rfl, rfl, trivial⟩ rfl
  intro i_ hI_ hback3
  obtain ⟨k, dd, wr⟩ := i_
  obtain ⟨E, O_b1, lz_wr, hk, hb⟩ := hI_
  try dsimp only
  have zr := E.size
  have lt_b1 := O_b1.lt
  refine run_seq ?_
  refine run_region ?_
  refine ov (xlss rfl rfl _ rfl) rfl rfl rfl ?_
  refine ods (fun c12 => ?_) (fun c12 => ?_)
  ·
    refine ops_nil ?_
    refine run_seq ?_
    refine run_cond_t rfl ?_
    refine run_skip ?_
    refine run_seq ?_
    refine run_block ?_
    refine run_seq ?_
    refine run_region ?_
    refine ov (xmove rfl) rfl rfl rfl ?_
    have h14 := (H.ext E).at (i := k) (by omega)
    refine ov (xindexN (i := k) Try.underlying47 Try.sizeOf77 rfl rfl rfl ((H.ext E).p (i := k) (by omega)) (by have := (H.ext E).len; omega)) rfl rfl rfl ?_
    refine ov (v := .agg #[.int .i64 x.Chain[k].Day, .string x.Chain[k].From, .string x.Chain[k].To, .int .i64 x.Chain[k].Seal]) (xloadN Try.isAgg77 Try.sizeOf77 rfl (h14) rfl) rfl rfl rfl ?_
    refine oalloc Try.zeroValue77 rfl rfl ?_
    intro b2 w2 e2 hb2 hz2 O2
    have E := E.trans e2
    replace O_b1 := O_b1.ext e2
    replace O2 : Own w2 b2 [.int .i64 0, .string ⟨#[]⟩, .string ⟨#[]⟩, .int .i64 0] 77 := O2
    refine ov (xassign rfl) rfl rfl rfl ?_
    refine ostoreN (vs := _) Try.sizeOf77 rfl rfl O2 rfl (by simp) (by simp [Value.oneCell']) rfl ?_
    intro w3 on3 O3
    have hz3 := on3.size
    have E := on3.ext E (by omega)
    replace O_b1 := on3.own O_b1 (by omega)
    replace O3 : Own w3 b2 [.int .i64 x.Chain[k].Day, .string x.Chain[k].From, .string x.Chain[k].To, .int .i64 x.Chain[k].Seal] 77 := O3
    refine ops_nil ?_
    refine run_seq ?_
    refine run_seq ?_
    refine run_draw (by kernel_rfl) (by kernel_rfl) ?_
    refine qv (fun w' x_ => xfieldAddr fo77f0 rfl) rfl rfl rfl ?_
    refine qv (v := .int .i64 x.Chain[k].Day) (fun w' x_ => xload1 Try.isAgg2 rfl ((O3.cells).ext x_) rfl) rfl rfl rfl ?_
    refine qv (fun w' x_ => xmove rfl) rfl rfl rfl ?_
    refine qv (fun w' x_ => xlss rfl rfl _ rfl) rfl rfl rfl ?_
    refine qds (fun c19 => ?_) (fun c19 => ?_)
    ·
      refine qv (fun w' x_ => xmove rfl) rfl rfl rfl ?_
      refine qg rfl rfl rfl ?_
      refine qg rfl rfl rfl ?_
      refine qg rfl rfl rfl ?_
      refine qg rfl rfl rfl ?_
      refine qg rfl rfl rfl ?_
      refine qg rfl rfl rfl ?_
      refine qv (fun w' x_ => xpick_t rfl rfl) rfl rfl rfl ?_
      refine qv (fun w' x_ => xmove rfl) rfl rfl rfl ?_
      refine qg rfl rfl rfl ?_
      refine qg rfl rfl rfl ?_
      refine qg rfl rfl rfl ?_
      refine qg rfl rfl rfl ?_
      refine qg rfl rfl rfl ?_
      refine qv (fun w' x_ => xpick_t rfl rfl) rfl rfl rfl ?_
      refine q_nil ?_
      intro w4 e4
      have z4 := e4.size
      have E := E.trans e4
      replace O_b1 := O_b1.ext e4
      replace O3 := O3.ext e4
      refine run_cond_t rfl ?_
      refine run_seq ?_
      refine run_region ?_
      refine ov (xmove rfl) rfl rfl rfl ?_
      refine ov (xassign rfl) rfl rfl rfl ?_
      refine ops_nil ?_
      refine run_ret Try.func105 (res1 rfl rfl) ?_
      exact ⟨_, rfl, by rw [hb, List.drop_eq_getElem_cons (by omega), brkGo, if_pos (by simp_all)], E⟩
    ·
      refine qv (fun w' x_ => xmove rfl) rfl rfl rfl ?_
      refine qv (fun w' x_ => xfieldAddr fo77f1 rfl) rfl rfl rfl ?_
      refine qv (v := .string x.Chain[k].From) (fun w' x_ => xload1 Try.isAgg9 rfl ((O3.cells).ext x_) rfl) rfl rfl rfl ?_
      refine qv (v := .agg #[.string x.Code, .string x.Found, .int .i64 x.Day, .int .i64 x.Seal, .slice p n c]) (fun w' x_ => xloadN Try.isAgg49 Try.sizeOf49 rfl ((O_b1.cells).ext x_) rfl) rfl rfl rfl ?_
      refine qv (fun w' x_ => xmove rfl) rfl rfl rfl ?_
      have t25 := fun (w' : World) (x_ : Ext w3 w') => Ret.q (w := w') (holder_ok _ _ _ _ _ ((H.ext E).ext x_) k (by omega))
      refine qc (fun w' => xcall Try.call107 rfl) rfl rfl rfl t25 ?_
      clear t25
      refine qv (fun w' x_ => xsneq rfl rfl _ rfl) rfl rfl rfl ?_
      refine qds (fun c26 => ?_) (fun c26 => ?_)
      ·
        refine qv (fun w' x_ => xpick_f rfl rfl) rfl rfl rfl ?_
        refine qv (fun w' x_ => xmove rfl) rfl rfl rfl ?_
        refine qg rfl rfl rfl ?_
        refine qg rfl rfl rfl ?_
        refine qg rfl rfl rfl ?_
        refine qg rfl rfl rfl ?_
        refine qg rfl rfl rfl ?_
        refine qv (fun w' x_ => xpick_t rfl rfl) rfl rfl rfl ?_
        refine q_nil ?_
        intro w4 e4
        have z4 := e4.size
        have E := E.trans e4
        replace O_b1 := O_b1.ext e4
        replace O3 := O3.ext e4
        refine run_cond_t rfl ?_
        refine run_seq ?_
        refine run_region ?_
        refine ov (xmove rfl) rfl rfl rfl ?_
        refine ov (xassign rfl) rfl rfl rfl ?_
        refine ops_nil ?_
        refine run_ret Try.func105 (res1 rfl rfl) ?_
        exact ⟨_, rfl, by rw [hb, List.drop_eq_getElem_cons (by omega), brkGo, if_pos (by simp_all)], E⟩
      ·
        refine qv (fun w' x_ => xpick_f rfl rfl) rfl rfl rfl ?_
        refine qv (fun w' x_ => xmove rfl) rfl rfl rfl ?_
        refine qv (fun w' x_ => xfieldAddr fo77f2 rfl) rfl rfl rfl ?_
        refine qv (v := .string x.Chain[k].To) (fun w' x_ => xload1 Try.isAgg9 rfl ((O3.cells).ext x_) rfl) rfl rfl rfl ?_
        refine qv (fun w' x_ => xfieldAddr fo77f1 rfl) rfl rfl rfl ?_
        refine qv (v := .string x.Chain[k].From) (fun w' x_ => xload1 Try.isAgg9 rfl ((O3.cells).ext x_) rfl) rfl rfl rfl ?_
        refine qv (fun w' x_ => xseql rfl rfl _ rfl) rfl rfl rfl ?_
        refine qds (fun c33 => ?_) (fun c33 => ?_)
        ·
          refine qv (fun w' x_ => xpick_f rfl rfl) rfl rfl rfl ?_
          refine q_nil ?_
          intro w4 e4
          have z4 := e4.size
          have E := E.trans e4
          replace O_b1 := O_b1.ext e4
          replace O3 := O3.ext e4
          refine run_cond_t rfl ?_
          refine run_seq ?_
          refine run_region ?_
          refine ov (xmove rfl) rfl rfl rfl ?_
          refine ov (xassign rfl) rfl rfl rfl ?_
          refine ops_nil ?_
          refine run_ret Try.func105 (res1 rfl rfl) ?_
          exact ⟨_, rfl, by rw [hb, List.drop_eq_getElem_cons (by omega), brkGo, if_pos (by simp_all)], E⟩
        ·
          refine qv (fun w' x_ => xpick_f rfl rfl) rfl rfl rfl ?_
          refine q_nil ?_
          intro w4 e4
          have z4 := e4.size
          have E := E.trans e4
          replace O_b1 := O_b1.ext e4
          replace O3 := O3.ext e4
          refine run_cond_f rfl ?_
          refine run_skip ?_
          refine run_region ?_
          refine ov (xfieldAddr fo77f0 rfl) rfl rfl rfl ?_
          refine ov (v := .int .i64 x.Chain[k].Day) (xload1 Try.isAgg2 rfl (O3.cells) rfl) rfl rfl rfl ?_
          refine ov (xassign rfl) rfl rfl rfl ?_
          refine ops_nil ?_
          refine run_inBlock ?_
          refine run_region ?_
          refine ov (xadd rfl rfl (by unfold I64; omega)) rfl rfl rfl ?_
          refine ov (xmove rfl) rfl rfl rfl ?_
          refine ops_nil ?_
          refine run_sub ?_ (hback3 (k + 1, x.Chain[k].Day, w4) (⟨E, O_b1, by omega, by omega, by rw [hb, List.drop_eq_getElem_cons (by omega), brkGo, if_neg (by simp_all), hold_succ (by omega)]⟩) (by first | omega | (dsimp only; omega)))
          exact ⟨rfl, rfl, rfl, rfl, rfl, trivial⟩
  ·
    refine ops_nil ?_
    refine run_seq ?_
    refine run_cond_f rfl ?_
    refine run_exit rfl ?_
    refine run_seq ?_
    refine run_region ?_
    refine ov (xfieldAddr fo49f4 rfl) rfl rfl rfl ?_
    refine ov (v := .slice p n c) (xload1 Try.isAgg47 rfl (O_b1.cells) rfl) rfl rfl rfl ?_
    refine ov (xlen Try.underlying47 rfl) rfl rfl rfl ?_
    refine ov (xassign rfl) rfl rfl rfl ?_
    refine ops_nil ?_
    refine run_ret Try.func105 (res1 rfl rfl) ?_
    exact ⟨_, rfl, by rw [hb, List.drop_eq_nil_of_le (by omega), brkGo]; congr 1; omega, E⟩

set_option maxHeartbeats 400000 in
theorem l23Break_ok (p : Option Addr) (n c : Nat) (x : Exhibit) (w : World) (H : Sl Handing.cells 4 w p n c x.Chain) : Ret Try.prog 103 [.agg #[.string x.Code, .string x.Found, .int .i64 x.Day, .int .i64 x.Seal, .slice p n c]] w (Pv w (.int .i64 (brkZ x))) := by
  refine ret_of_run (N := 45) Try.func103 rfl rfl rfl ?_
  have hn := H.len
  have hn6 := H.n64
  have E : Ext w w := Ext.refl w
  refine run_seq ?_
  refine run_region ?_
  refine obox rfl rfl rfl ?_
  intro b1 w1 e1 hb1 hz1 O1
  have E := E.trans e1
  replace O1 : Own w1 b1 [.string x.Code, .string x.Found, .int .i64 x.Day, .int .i64 x.Seal, .slice p n c] 49 := O1
  refine ov (xassign rfl) rfl rfl rfl ?_
  refine ops_nil ?_
  refine run_seq ?_
  refine run_draw (by kernel_rfl) (by kernel_rfl) ?_
  refine qv (fun w' x_ => xfieldAddr fo49f2 rfl) rfl rfl rfl ?_
  refine qv (v := .int .i64 x.Day) (fun w' x_ => xload1 Try.isAgg2 rfl ((O1.cells).ext x_) rfl) rfl rfl rfl ?_
  refine qv (fun w' x_ => xfieldAddr fo49f1 rfl) rfl rfl rfl ?_
  refine qv (v := .string x.Found) (fun w' x_ => xload1 Try.isAgg9 rfl ((O1.cells).ext x_) rfl) rfl rfl rfl ?_
  refine qv (fun w' x_ => xassign rfl) rfl rfl rfl ?_
  refine qv (fun w' x_ => xassign rfl) rfl rfl rfl ?_
  refine q_nil ?_
  intro w2 e2
  have z2 := e2.size
  have E := E.trans e2
  replace O1 := O1.ext e2
  refine run_seq ?_
  refine run_seq ?_
  refine run_region ?_
  refine ov (xassign rfl) rfl rfl rfl ?_
  refine ops_nil ?_
  refine run_block ?_
  refine run_loop (ι := Nat × Int × World) (fun x_ => match x_ with | (k, dd, wr) => (Ext w wr) ∧ (Own wr b1 ([.string x.Code, .string x.Found, .int .i64 x.Day, .int .i64 x.Seal, .slice p n c]) 49) ∧ (w2.heap.size ≤ wr.heap.size) ∧ (k ≤ n) ∧ (brk x = brkGo (hold x k) dd k (x.Chain.drop k))) (fun x_ => match x_ with | (k, dd, wr) => [(1, .pointer (some ⟨b1, 0, none⟩)), (3, .int .i64 dd), (4, .string (hold x k)), (5, .int .i64 (k : Int))]) (fun x_ => match x_ with | (k, dd, wr) => wr) (fun x_ => match x_ with | (k, dd, wr) => n - k) ?_ (0, x.Day, w2) (⟨E, O1, Nat.le_refl _, by omega, by rfl⟩) ⟨rfl, rfl, rfl, rfl, trivial⟩ rfl
  intro i_ hI_ hback3
  obtain ⟨k, dd, wr⟩ := i_
  obtain ⟨E, O_b1, lz_wr, hk, hb⟩ := hI_
  try dsimp only
  have zr := E.size
  have lt_b1 := O_b1.lt
  refine run_seq ?_
  refine run_seq ?_
  refine run_region ?_
  refine ov (xmove rfl) rfl rfl rfl ?_
  refine ov (xfieldAddr fo49f4 rfl) rfl rfl rfl ?_
  refine ov (v := .slice p n c) (xload1 Try.isAgg47 rfl (O_b1.cells) rfl) rfl rfl rfl ?_
  refine ov (xlen Try.underlying47 rfl) rfl rfl rfl ?_
  refine ov (xlss rfl rfl _ rfl) rfl rfl rfl ?_
  refine ods (fun c15 => ?_) (fun c15 => ?_)
  ·
    refine ops_nil ?_
    refine run_cond_t rfl ?_
    refine run_skip ?_
    refine run_seq ?_
    refine run_block ?_
    refine run_seq ?_
    refine run_region ?_
    refine ov (xfieldAddr fo49f4 rfl) rfl rfl rfl ?_
    refine ov (v := .slice p n c) (xload1 Try.isAgg47 rfl (O_b1.cells) rfl) rfl rfl rfl ?_
    refine ov (xmove rfl) rfl rfl rfl ?_
    have h21 := (H.ext E).at (i := k) (by omega)
    refine ov (xindexN (i := k) Try.underlying47 Try.sizeOf77 rfl rfl rfl ((H.ext E).p (i := k) (by omega)) (by have := (H.ext E).len; omega)) rfl rfl rfl ?_
    refine ov (v := .agg #[.int .i64 x.Chain[k].Day, .string x.Chain[k].From, .string x.Chain[k].To, .int .i64 x.Chain[k].Seal]) (xloadN Try.isAgg77 Try.sizeOf77 rfl (h21) rfl) rfl rfl rfl ?_
    refine oalloc Try.zeroValue77 rfl rfl ?_
    intro b3 w3 e3 hb3 hz3 O3
    have E := E.trans e3
    replace O_b1 := O_b1.ext e3
    replace O3 : Own w3 b3 [.int .i64 0, .string ⟨#[]⟩, .string ⟨#[]⟩, .int .i64 0] 77 := O3
    refine ostoreN (vs := _) Try.sizeOf77 rfl rfl O3 rfl (by simp) (by simp [Value.oneCell']) rfl ?_
    intro w4 on4 O4
    have hz4 := on4.size
    have E := on4.ext E (by omega)
    replace O_b1 := on4.own O_b1 (by omega)
    replace O4 : Own w4 b3 [.int .i64 x.Chain[k].Day, .string x.Chain[k].From, .string x.Chain[k].To, .int .i64 x.Chain[k].Seal] 77 := O4
    refine ops_nil ?_
    refine run_seq ?_
    refine run_seq ?_
    refine run_region ?_
    refine ov (xfieldAddr fo77f0 rfl) rfl rfl rfl ?_
    refine ov (v := .int .i64 x.Chain[k].Day) (xload1 Try.isAgg2 rfl (O4.cells) rfl) rfl rfl rfl ?_
    refine ov (xmove rfl) rfl rfl rfl ?_
    refine ov (xlss rfl rfl _ rfl) rfl rfl rfl ?_
    refine ods (fun c26 => ?_) (fun c26 => ?_)
    ·
      refine ov (xmove rfl) rfl rfl rfl ?_
      refine og rfl rfl rfl ?_
      refine og rfl rfl rfl ?_
      refine og rfl rfl rfl ?_
      refine og rfl rfl rfl ?_
      refine ov (xpick_t rfl rfl) rfl rfl rfl ?_
      refine ov (xmove rfl) rfl rfl rfl ?_
      refine og rfl rfl rfl ?_
      refine og rfl rfl rfl ?_
      refine og rfl rfl rfl ?_
      refine og rfl rfl rfl ?_
      refine og rfl rfl rfl ?_
      refine ov (xpick_t rfl rfl) rfl rfl rfl ?_
      refine ops_nil ?_
      refine run_cond_t rfl ?_
      refine run_seq ?_
      refine run_region ?_
      refine ov (xmove rfl) rfl rfl rfl ?_
      refine ov (xassign rfl) rfl rfl rfl ?_
      refine ops_nil ?_
      refine run_ret Try.func103 (res1 rfl rfl) ?_
      have hq : brk x = k := by rw [hb, List.drop_eq_getElem_cons (by omega), brkGo, if_pos (by simp_all)]
      exact ⟨_, rfl, by rw [brkZ, if_pos (by omega), hq], E⟩
    ·
      refine ov (xmove rfl) rfl rfl rfl ?_
      refine ov (xfieldAddr fo77f1 rfl) rfl rfl rfl ?_
      refine ov (v := .string x.Chain[k].From) (xload1 Try.isAgg9 rfl (O4.cells) rfl) rfl rfl rfl ?_
      refine ov (xmove rfl) rfl rfl rfl ?_
      refine ov (xsneq rfl rfl _ rfl) rfl rfl rfl ?_
      refine ods (fun c31 => ?_) (fun c31 => ?_)
      ·
        refine ov (xpick_f rfl rfl) rfl rfl rfl ?_
        refine ov (xmove rfl) rfl rfl rfl ?_
        refine og rfl rfl rfl ?_
        refine og rfl rfl rfl ?_
        refine og rfl rfl rfl ?_
        refine og rfl rfl rfl ?_
        refine og rfl rfl rfl ?_
        refine ov (xpick_t rfl rfl) rfl rfl rfl ?_
        refine ops_nil ?_
        refine run_cond_t rfl ?_
        refine run_seq ?_
        refine run_region ?_
        refine ov (xmove rfl) rfl rfl rfl ?_
        refine ov (xassign rfl) rfl rfl rfl ?_
        refine ops_nil ?_
        refine run_ret Try.func103 (res1 rfl rfl) ?_
        have hq : brk x = k := by rw [hb, List.drop_eq_getElem_cons (by omega), brkGo, if_pos (by simp_all)]
        exact ⟨_, rfl, by rw [brkZ, if_pos (by omega), hq], E⟩
      ·
        refine ov (xpick_f rfl rfl) rfl rfl rfl ?_
        refine ov (xmove rfl) rfl rfl rfl ?_
        refine ov (xfieldAddr fo77f2 rfl) rfl rfl rfl ?_
        refine ov (v := .string x.Chain[k].To) (xload1 Try.isAgg9 rfl (O4.cells) rfl) rfl rfl rfl ?_
        refine ov (xfieldAddr fo77f1 rfl) rfl rfl rfl ?_
        refine ov (v := .string x.Chain[k].From) (xload1 Try.isAgg9 rfl (O4.cells) rfl) rfl rfl rfl ?_
        refine ov (xseql rfl rfl _ rfl) rfl rfl rfl ?_
        refine ods (fun c38 => ?_) (fun c38 => ?_)
        ·
          refine ov (xpick_f rfl rfl) rfl rfl rfl ?_
          refine ops_nil ?_
          refine run_cond_t rfl ?_
          refine run_seq ?_
          refine run_region ?_
          refine ov (xmove rfl) rfl rfl rfl ?_
          refine ov (xassign rfl) rfl rfl rfl ?_
          refine ops_nil ?_
          refine run_ret Try.func103 (res1 rfl rfl) ?_
          have hq : brk x = k := by rw [hb, List.drop_eq_getElem_cons (by omega), brkGo, if_pos (by simp_all)]
          exact ⟨_, rfl, by rw [brkZ, if_pos (by omega), hq], E⟩
        ·
          refine ov (xpick_f rfl rfl) rfl rfl rfl ?_
          refine ops_nil ?_
          refine run_cond_f rfl ?_
          refine run_skip ?_
          refine run_seq ?_
          refine run_region ?_
          refine ov (xfieldAddr fo77f0 rfl) rfl rfl rfl ?_
          refine ov (v := .int .i64 x.Chain[k].Day) (xload1 Try.isAgg2 rfl (O4.cells) rfl) rfl rfl rfl ?_
          refine ov (xassign rfl) rfl rfl rfl ?_
          refine ops_nil ?_
          refine run_region ?_
          refine ov (xfieldAddr fo77f2 rfl) rfl rfl rfl ?_
          refine ov (v := .string x.Chain[k].To) (xload1 Try.isAgg9 rfl (O4.cells) rfl) rfl rfl rfl ?_
          refine ov (xassign rfl) rfl rfl rfl ?_
          refine ops_nil ?_
          refine run_inBlock ?_
          refine run_region ?_
          refine ov (xmove rfl) rfl rfl rfl ?_
          refine ov (xadd rfl rfl (by unfold I64; omega)) rfl rfl rfl ?_
          refine ov (xassign rfl) rfl rfl rfl ?_
          refine ops_nil ?_
          rw [← hold_succ (x := x) (k := k) (by omega)] 
          refine run_sub ?_ (hback3 (k + 1, x.Chain[k].Day, w4) (⟨E, O_b1, by omega, by omega, by rw [hb, List.drop_eq_getElem_cons (by omega), brkGo, if_neg (by simp_all), hold_succ (by omega)]⟩) (by first | omega | (dsimp only; omega)))
          exact ⟨rfl, rfl, rfl, rfl, trivial⟩
  ·
    refine ops_nil ?_
    refine run_cond_f rfl ?_
    refine run_exit rfl ?_
    refine run_seq ?_
    refine run_region ?_
    refine ov (xassign rfl) rfl rfl rfl ?_
    refine ops_nil ?_
    refine run_ret Try.func103 (res1 rfl rfl) ?_
    have hq : brk x = k := by rw [hb, List.drop_eq_nil_of_le (by omega), brkGo]
    exact ⟨_, rfl, by rw [brkZ, if_neg (by omega)], E⟩

set_option maxHeartbeats 400000 in
theorem unbroken_ok (p : Option Addr) (n c : Nat) (x : Exhibit) (w : World) (H : Sl Handing.cells 4 w p n c x.Chain) : Ret Try.prog 109 [.agg #[.string x.Code, .string x.Found, .int .i64 x.Day, .int .i64 x.Seal, .slice p n c]] w (Pv w (.bool (decide (brk x = x.Chain.length)))) := by
  refine ret_of_run (N := 9) Try.func109 rfl rfl rfl ?_
  have hn := H.len
  have hn6 := H.n64
  have E : Ext w w := Ext.refl w
  refine run_seq ?_
  refine run_region ?_
  refine obox rfl rfl rfl ?_
  intro b1 w1 e1 hb1 hz1 O1
  have E := E.trans e1
  replace O1 : Own w1 b1 [.string x.Code, .string x.Found, .int .i64 x.Day, .int .i64 x.Seal, .slice p n c] 49 := O1
  refine ov (xassign rfl) rfl rfl rfl ?_
  refine ops_nil ?_
  refine run_seq ?_
  refine run_draw (by kernel_rfl) (by kernel_rfl) ?_
  refine qv (v := .agg #[.string x.Code, .string x.Found, .int .i64 x.Day, .int .i64 x.Seal, .slice p n c]) (fun w' x_ => xloadN Try.isAgg49 Try.sizeOf49 rfl ((O1.cells).ext x_) rfl) rfl rfl rfl ?_
  have t4 := fun (w' : World) (x_ : Ext w1 w') => Ret.q (w := w') (firstBreak_ok _ _ _ _ _ ((H.ext E).ext x_))
  refine qc (fun w' => xcall Try.call105 rfl) rfl rfl rfl t4 ?_
  clear t4
  refine qv (fun w' x_ => xfieldAddr fo49f4 rfl) rfl rfl rfl ?_
  refine qv (v := .slice p n c) (fun w' x_ => xload1 Try.isAgg47 rfl ((O1.cells).ext x_) rfl) rfl rfl rfl ?_
  refine qv (fun w' x_ => xlen Try.underlying47 rfl) rfl rfl rfl ?_
  refine qv (fun w' x_ => xeql rfl rfl _ rfl) rfl rfl rfl ?_
  refine qv (fun w' x_ => xassign rfl) rfl rfl rfl ?_
  refine q_nil ?_
  intro w2 e2
  have z2 := e2.size
  have E := E.trans e2
  replace O1 := O1.ext e2
  refine run_ret Try.func109 (res1 rfl rfl) ?_
  exact ⟨_, rfl, congrArg Value.bool (decide_eq_decide.2 (by omega)), E⟩
end Go.Proofs.Ytnjohcbamblilaa
