/-
  What jurors see. No condition beyond those written in each theorem.
-/
import Derived.Test.YtnjohcbamblilaaArX
import Derived.Test.YtnjohcbamblilaaStanding
namespace Go.Proofs.Ytnjohcbamblilaa
open Go.RowKit
set_option linter.unusedVariables false
set_option linter.unusedSimpArgs false
set_option linter.unusedSectionVars false
set_option maxRecDepth 4000

def chAny (x : Exhibit) (p : Int) : Bool := (chgGo x.Seal 0 x.Chain).any fun i => decide (i < p)
def unseen (rs : List Ruling) (x : Exhibit) (day : Int) : Int :=
  (if standing rs x.Code day ≠ 0 then 1 else 0) + (if (brk x : Int) < (past x day : Int) then 2 else 0) + (if chAny x (past x day : Int) = true then 4 else 0)
theorem chg_ge : ∀ (l : List Handing) (sl : Int) (i : Nat), ∀ j ∈ chgGo sl i l, (i : Int) ≤ j
  | [], _, _, j, m => by cases m
  | h :: r, sl, i, j, m => by
    unfold chgGo at m
    split at m
    · rcases List.mem_cons.1 m with rfl | m
      · exact Int.le_refl _
      · have := chg_ge r _ _ j m; omega
    · have := chg_ge r _ _ j m; omega
def headLt (p : Int) : List Int → Bool
  | [] => false
  | j :: _ => decide (j < p)
theorem headLt_at {p : Int} {l : List Int} (h : 0 < l.length) : headLt p l = decide (l[0] < p) := by
  cases l with
  | nil => cases h
  | cons j r => rfl
theorem chg_any : ∀ (l : List Handing) (sl : Int) (i : Nat) (p : Int), ((chgGo sl i l).any fun j => decide (j < p)) = headLt p (chgGo sl i l)
  | [], _, _, _ => rfl
  | h :: r, sl, i, p => by
    unfold chgGo
    split
    · simp only [List.any_cons]
      by_cases hp : (i : Int) < p
      · simp [hp, headLt]
      · have : ((chgGo h.Seal (i + 1) r).any fun j => decide (j < p)) = false := by
          rw [List.any_eq_false]; intro j m
          have := chg_ge r _ _ j m
          simp only [decide_eq_true_eq]; omega
        rw [this, Bool.or_false]; rfl
    · exact chg_any r _ _ p
theorem chAny_nil {x : Exhibit} {p : Int} (hx : isExhibit x = true) (h : (sealChanges x).1.length = 0) : chAny x p = false := by
  rw [sealChanges, if_neg (by simp [hx])] at h
  have h : chgGo x.Seal 0 x.Chain = [] := List.length_eq_zero_iff.1 h
  rw [chAny, h]; rfl
theorem chAny_head {x : Exhibit} {p : Int} (hx : isExhibit x = true) (h : 0 < (sealChanges x).1.length) : chAny x p = decide ((sealChanges x).1[0] < p) := by
  have e : (sealChanges x).1 = chgGo x.Seal 0 x.Chain := by rw [sealChanges, if_neg (by simp [hx])]
  rw [chAny, chg_any, headLt_at (e ▸ h)]
  simp only [e]
def exOf (xs : List Exhibit) (code : ByteArray) : Int := findI (fun x => decide (x.Code = code)) xs
theorem exOf_lt (xs : List Exhibit) (code : ByteArray) : -1 ≤ exOf xs code ∧ exOf xs code < xs.length := findI_lt
def rulCode (rs : List Ruling) (xs : List Exhibit) (day : Int) : Int := if areRulings rs = false ∨ areExhibits xs = false then 1 else if inR 0 20000 day = false then 2 else 0
theorem rulCode_zero {rs : List Ruling} {xs : List Exhibit} {day : Int} (h : rulCode rs xs day = 0) : areRulings rs = true ∧ areExhibits xs = true ∧ inR 0 20000 day = true := by
  unfold rulCode at h
  split at h
  · cases h
  · rename_i h1
    split at h
    · cases h
    · rename_i h2; simp only [not_or, Bool.not_eq_false] at h1 h2; exact ⟨h1.1, h1.2, h2⟩
def dX : Exhibit := ⟨⟨#[]⟩, ⟨#[]⟩, 0, 0, []⟩
def getX (xs : List Exhibit) (i : Int) : Exhibit := xs[i.toNat]?.getD dX
theorem getX_eq {xs : List Exhibit} {i : Int} (h : i.toNat < xs.length) : getX xs i = xs[i.toNat] := by simp [getX, h]
def whyUnseen (rs : List Ruling) (xs : List Exhibit) (code : ByteArray) (day : Int) : Int × Int :=
  if rulCode rs xs day ≠ 0 then (0, rulCode rs xs day) else if exOf xs code < 0 then (0, 4) else (unseen rs (getX xs (exOf xs code)) day, 0)
def doSee (rs : List Ruling) (xs : List Exhibit) (code : ByteArray) (day : Int) : Bool × Int :=
  (decide ((whyUnseen rs xs code day).2 = 0) && decide ((whyUnseen rs xs code day).1 = 0), (whyUnseen rs xs code day).2)
def seenOn (rs : List Ruling) (xs : List Exhibit) (day : Int) : List ByteArray × Int :=
  if rulCode rs xs day ≠ 0 then ([], rulCode rs xs day) else ((xs.filter fun x => decide (unseen rs x day = 0)).map (·.Code), 0)
theorem seenOn_len (rs : List Ruling) (xs : List Exhibit) (day : Int) : (seenOn rs xs day).1.length ≤ 10 := by
  unfold seenOn; split
  · simp
  · rename_i h
    have h1 := areExhibits_len (rulCode_zero (by omega : rulCode rs xs day = 0)).2.1
    simp only [List.length_map]; exact Nat.le_trans (List.length_filter_le _ _) h1
def bump (c : List Int) (k : Nat) : List Int := match c[k]? with
  | some v => c.set k (v + 1)
  | none => c
theorem bump_at {c : List Int} {k : Nat} (h : k < c.length) : bump c k = c.set k (c[k] + 1) := by simp [bump, h]
def cntS (rs : List Ruling) (day : Int) (xs : List Exhibit) : List Int := xs.foldl (fun c x => bump c (standing rs x.Code day).toNat) [0, 0, 0, 0]
theorem bump_small {c : List Int} {k : Nat} {m : Int} (h : c.length = 4 ∧ ∀ v ∈ c, 0 ≤ v ∧ v ≤ m) : (bump c k).length = 4 ∧ ∀ v ∈ bump c k, 0 ≤ v ∧ v ≤ m + 1 := by
  unfold bump
  split
  · rename_i u hu
    refine ⟨by rw [List.length_set]; exact h.1, fun v hv => ?_⟩
    have hum := h.2 u (List.mem_of_getElem? hu)
    rcases List.mem_or_eq_of_mem_set hv with hv | rfl
    · have := h.2 v hv; omega
    · omega
  · exact ⟨h.1, fun v hv => by have := h.2 v hv; omega⟩
theorem cntS_succ (rs : List Ruling) (day : Int) {xs : List Exhibit} {k : Nat} (hk : k < xs.length) : cntS rs day (xs.take (k + 1)) = bump (cntS rs day (xs.take k)) (standing rs xs[k].Code day).toNat := by
  simp only [cntS, List.take_succ_eq_append_getElem hk, List.foldl_append, List.foldl_cons, List.foldl_nil]
theorem cntS_small (rs : List Ruling) (day : Int) (xs : List Exhibit) : ∀ k : Nat, k ≤ xs.length → (cntS rs day (xs.take k)).length = 4 ∧ ∀ v ∈ cntS rs day (xs.take k), 0 ≤ v ∧ v ≤ k
  | 0, _ => by simp [cntS]
  | k + 1, h => by
    rw [cntS_succ rs day (by omega)]
    exact bump_small (cntS_small rs day xs k (by omega))
theorem standing_range {rs : List Ruling} (h : areRulings rs = true) (code : ByteArray) (day : Int) : 0 ≤ standing rs code day ∧ standing rs code day ≤ 3 := by
  have hk : ∀ r ∈ rs, 0 ≤ r.Kind ∧ r.Kind ≤ 3 := fun r m => by
    obtain ⟨i, hi, rfl⟩ := List.getElem_of_mem m
    simp only [areRulings, Bool.and_eq_true] at h
    have h1 := allB_iff.1 h.1 i hi
    rw [allI_of hi, rulP, Bool.and_eq_true] at h1
    have h2 := h1.1
    simp only [isRuling, Bool.and_eq_true] at h2
    exact inR_iff.1 h2.2
  have : ∀ (l : List Ruling) (kd : Int), (∀ r ∈ l, 0 ≤ r.Kind ∧ r.Kind ≤ 3) → 0 ≤ kd ∧ kd ≤ 3 → 0 ≤ l.foldl (stStep code day) kd ∧ l.foldl (stStep code day) kd ≤ 3 := by
    intro l
    induction l with
    | nil => intro kd _ h; exact h
    | cons r t ih =>
      intro kd hr hkd
      rw [List.foldl_cons]
      refine ih _ (fun x m => hr x (by simp [m])) ?_
      unfold stStep
      split
      · exact hr r (by simp)
      · exact hkd
  exact this rs 2 hk (by decide)
def countSt (rs : List Ruling) (xs : List Exhibit) (day : Int) : List Int × Int :=
  if rulCode rs xs day ≠ 0 then ([], rulCode rs xs day) else (cntS rs day xs, 0)
theorem countSt_len (rs : List Ruling) (xs : List Exhibit) (day : Int) : (countSt rs xs day).1.length ≤ 4 := by
  unfold countSt; split
  · simp
  · have := (cntS_small rs day xs xs.length (Nat.le_refl _)).1
    rw [List.take_length] at this; simp only; omega
theorem cnt_step {rs : List Ruling} {day : Int} {xs : List Exhibit} {ys : List Int} {k : Nat} (hk : k < xs.length) (h : ys = cntS rs day (xs.take k)) (hl : (standing rs xs[k].Code day).toNat < ys.length) {v : Int} (hv : v = ys[(standing rs xs[k].Code day).toNat] + 1) : ys.set (standing rs xs[k].Code day).toNat v = cntS rs day (xs.take (k + 1)) := by
  subst hv
  rw [cntS_succ rs day hk, ← h, bump_at hl]
theorem xfilt_step {α β : Type} {f : α → Bool} {g : α → β} {xs : List α} {ys : List β} {k : Nat} (hk : k < xs.length) (h : ys = ((xs.take k).filter f).map g) :
    (f xs[k] = true → ys ++ [g xs[k]] = ((xs.take (k + 1)).filter f).map g) ∧ (f xs[k] = false → ys = ((xs.take (k + 1)).filter f).map g) := by
  subst h
  rw [List.take_succ_eq_append_getElem hk, List.filter_append, List.map_append]
  exact ⟨fun h => by simp [h], fun h => by simp [h]⟩
theorem xfilt_len {α β : Type} {f : α → Bool} {g : α → β} {xs : List α} {ys : List β} {k : Nat} (h : ys = ((xs.take k).filter f).map g) : ys.length ≤ k := by
  subst h
  rw [List.length_map]
  exact Nat.le_trans (List.length_filter_le _ _) (by simp; omega)


set_option maxHeartbeats 400000 in
theorem IndexFuncI64_ok (p : Option Addr) (n c : Nat) (xs : List Int) (w : World) (H : Sl i64c 1 w p n c xs) (g : FuncId) (caps : List Value) (f : Int → Bool) (hg : ∀ args w, (callFunc g args).run Try.prog w = .ok (.enter g args) w) (hf : ∀ (w' : World), Ext w w' → ∀ i (hi : i < xs.length), Ret Try.prog g ([.int .i64 xs[i]] ++ caps) w' (Pv w' (.bool (f xs[i])))) : Ret Try.prog 142 [.slice p n c, .func (.func g) #[] caps.toArray] w (Pv w (.int .i64 (findI f xs))) := by
  refine ret_of_run (N := 19) Try.func142 rfl rfl rfl ?_
  have hn := H.len
  have hn6 := H.n64
  have E : Ext w w := Ext.refl w
  refine run_seq ?_
  refine run_region ?_
  refine ov (xassign rfl) rfl rfl rfl ?_
  refine ops_nil ?_
  refine run_seq ?_
  refine run_seq ?_
  refine run_region ?_
  refine ov (xmove rfl) rfl rfl rfl ?_
  refine ov (xlen Try.underlying55 rfl) rfl rfl rfl ?_
  refine ov (xmove rfl) rfl rfl rfl ?_
  refine ops_nil ?_
  refine run_block ?_
  refine run_loop (ι := Nat × World) (fun x_ => match x_ with | (k, wr) => (Ext w wr) ∧ (w.heap.size ≤ wr.heap.size) ∧ (k ≤ n) ∧ (∀ j (hj : j < xs.length), j < k → f xs[j] = false)) (fun x_ => match x_ with | (k, wr) => [(0, .slice p n c), (1, .func (.func g) #[] caps.toArray), (7, .int .i64 (n : Int)), (8, .int .i64 (k : Int))]) (fun x_ => match x_ with | (k, wr) => wr) (fun x_ => match x_ with | (k, wr) => n - k) ?_ (0, w) (⟨E, Nat.le_refl _, by omega, fun j hj h => absurd h (Nat.not_lt_zero j)⟩) ⟨rfl, rfl, rfl, rfl, trivial⟩ rfl
  intro i_ hI_ hback2
  obtain ⟨k, wr⟩ := i_
  obtain ⟨E, lz_wr, hk, ha⟩ := hI_
  try dsimp only
  have zr := E.size
  refine run_seq ?_
  refine run_region ?_
  refine ov (xlss rfl rfl _ rfl) rfl rfl rfl ?_
  refine ods (fun c9 => ?_) (fun c9 => ?_)
  ·
    refine ops_nil ?_
    refine run_seq ?_
    refine run_cond_t rfl ?_
    refine run_skip ?_
    refine run_seq ?_
    refine run_block ?_
    refine run_seq ?_
    refine run_region ?_
    refine ov (xmove rfl) rfl rfl rfl ?_
    refine ov (xassign rfl) rfl rfl rfl ?_
    refine ops_nil ?_
    refine run_seq ?_
    refine run_region ?_
    refine ov (xmove rfl) rfl rfl rfl ?_
    refine ov (xmove rfl) rfl rfl rfl ?_
    refine ov (xmove rfl) rfl rfl rfl ?_
    have h14 := (H.ext E).at (i := k) (by omega)
    refine ov (xindexN (i := k) Try.underlying55 Try.sizeOf2 rfl rfl rfl ((H.ext E).p (i := k) (by omega)) (by have := (H.ext E).len; omega)) rfl rfl rfl ?_
    refine ov (v := .int .i64 xs[k]) (xloadz Try.isAgg2 rfl (h14) rfl) rfl rfl rfl ?_
    refine oc (xcallv rfl hg rfl) rfl rfl rfl (hf _ E k (by omega)) ?_
    rintro _ w1 ⟨rfl, e1⟩
    have z1 := e1.size
    have E := E.trans e1
    refine obs (fun c16 => ?_) (fun c16 => ?_)
    ·
      refine ops_nil ?_
      refine run_cond_t rfl ?_
      refine run_seq ?_
      refine run_region ?_
      refine ov (xmove rfl) rfl rfl rfl ?_
      refine ov (xassign rfl) rfl rfl rfl ?_
      refine ops_nil ?_
      refine run_ret Try.func142 (res1 rfl rfl) ?_
      exact ⟨_, rfl, by rw [findI_at (k := k) (by omega) (by assumption) ha], E⟩
    ·
      refine ops_nil ?_
      refine run_cond_f rfl ?_
      refine run_skip ?_
      refine run_inBlock ?_
      refine run_region ?_
      refine ov (xadd rfl rfl (by unfold I64; omega)) rfl rfl rfl ?_
      refine ov (xmove rfl) rfl rfl rfl ?_
      refine ops_nil ?_
      refine run_sub ?_ (hback2 (k + 1, w1) (⟨E, by omega, by omega, below_succ (q := fun x => f x = false) ha (fun _ => by assumption)⟩) (by first | omega | (dsimp only; omega)))
      exact ⟨rfl, rfl, rfl, rfl, trivial⟩
  ·
    refine ops_nil ?_
    refine run_seq ?_
    refine run_cond_f rfl ?_
    refine run_exit rfl ?_
    refine run_seq ?_
    refine run_region ?_
    refine ov (xassign rfl) rfl rfl rfl ?_
    refine ops_nil ?_
    refine run_ret Try.func142 (res1 rfl rfl) ?_
    exact ⟨_, rfl, by rw [findI_none (fun j hj => ha j hj (by omega))], E⟩

set_option maxHeartbeats 400000 in
theorem ContainsFuncI64_ok (p : Option Addr) (n c : Nat) (xs : List Int) (w : World) (H : Sl i64c 1 w p n c xs) (g : FuncId) (caps : List Value) (f : Int → Bool) (hg : ∀ args w, (callFunc g args).run Try.prog w = .ok (.enter g args) w) (hf : ∀ (w' : World), Ext w w' → ∀ i (hi : i < xs.length), Ret Try.prog g ([.int .i64 xs[i]] ++ caps) w' (Pv w' (.bool (f xs[i])))) : Ret Try.prog 140 [.slice p n c, .func (.func g) #[] caps.toArray] w (Pv w (.bool (xs.any f))) := by
  refine ret_of_run (N := 9) Try.func140 rfl rfl rfl ?_
  have E : Ext w w := Ext.refl w
  refine run_seq ?_
  refine run_region ?_
  refine ov (xassign rfl) rfl rfl rfl ?_
  refine ops_nil ?_
  refine run_seq ?_
  refine run_region ?_
  refine ov (xmove rfl) rfl rfl rfl ?_
  refine ov (xmove rfl) rfl rfl rfl ?_
  refine oc (xcall Try.call142 rfl) rfl rfl rfl (IndexFuncI64_ok _ _ _ _ _ (H.ext E) g caps f hg (fun w2 x2 => hf w2 (E.trans x2))) ?_
  rintro _ w1 ⟨rfl, e1⟩
  have z1 := e1.size
  have E := E.trans e1
  refine ov (xgeq rfl rfl _ rfl) rfl rfl rfl ?_
  refine ov (xassign rfl) rfl rfl rfl ?_
  refine ops_nil ?_
  refine run_ret Try.func140 (res1 rfl rfl) ?_
  exact ⟨_, rfl, congrArg Value.bool (by rw [Bool.eq_iff_iff, decide_eq_true_iff]; exact findI_nn), E⟩

set_option maxHeartbeats 400000 in
theorem unseen1_ok (i m : Int) (b : Nat) (w : World) (O : Own w b [.int .i64 m] 3) : Ret Try.prog 141 [.int .i64 i, .pointer (some ⟨b, 0, none⟩)] w (Pv w (.bool (decide (i < m)))) := by
  refine ret_of_run (N := 7) Try.func141 rfl rfl rfl ?_
  have E : Ext w w := Ext.refl w
  refine run_seq ?_
  refine run_region ?_
  refine ov (xassign rfl) rfl rfl rfl ?_
  refine ops_nil ?_
  refine run_seq ?_
  refine run_region ?_
  refine ov (xmove rfl) rfl rfl rfl ?_
  refine ov (v := .int .i64 m) (xloadz Try.isAgg3 rfl (O.cells) rfl) rfl rfl rfl ?_
  refine ov (xlss rfl rfl _ rfl) rfl rfl rfl ?_
  refine ov (xassign rfl) rfl rfl rfl ?_
  refine ops_nil ?_
  refine run_ret Try.func141 (res1 rfl rfl) ?_
  exact ⟨_, rfl, rfl, E⟩

set_option maxHeartbeats 1000000 in
theorem unseen_ok (p : Option Addr) (n c : Nat) (rs : List Ruling) (x : Exhibit) (h : Hd) (day : Int) (w : World) (H : Sl Ruling.cells 3 w p n c rs) (K : Sl Handing.cells 4 w h.p h.n h.c x.Chain) (he : isExhibit x = true) (hs_ : exSmall x) : Ret Try.prog 131 [.slice p n c, .agg #[.string x.Code, .string x.Found, .int .i64 x.Day, .int .i64 x.Seal, .slice h.p h.n h.c], .int .i64 day] w (Pv w (.int .i64 (unseen rs x day))) := by
  refine ret_of_run (N := 33) Try.func131 rfl rfl rfl ?_
  have hn := H.len
  have hl_ := K.len
  have hl12 := isExhibit_len he
  have E : Ext w w := Ext.refl w
  refine run_seq ?_
  refine run_region ?_
  refine obox rfl rfl rfl ?_
  intro b1 w1 e1 hb1 hz1 O1
  have E := E.trans e1
  replace O1 : Own w1 b1 [.string x.Code, .string x.Found, .int .i64 x.Day, .int .i64 x.Seal, .slice h.p h.n h.c] 49 := O1
  refine ov (xassign rfl) rfl rfl rfl ?_
  refine ops_nil ?_
  refine run_seq ?_
  refine run_region ?_
  refine ov (xassign rfl) rfl rfl rfl ?_
  refine ops_nil ?_
  refine run_seq ?_
  refine run_seq ?_
  refine run_region ?_
  refine ov (xmove rfl) rfl rfl rfl ?_
  refine ov (xfieldAddr fo49f0 rfl) rfl rfl rfl ?_
  refine ov (v := .string x.Code) (xload1 Try.isAgg9 rfl (O1.cells) rfl) rfl rfl rfl ?_
  refine ov (xmove rfl) rfl rfl rfl ?_
  refine oc (xcall Try.call97 rfl) rfl rfl rfl (standing_ok _ _ _ _ _ _ _ (H.ext E)) ?_
  rintro _ w2 ⟨rfl, e2⟩
  have z2 := e2.size
  have E := E.trans e2
  replace O1 := O1.ext e2
  refine ov (xneq rfl rfl _ rfl) rfl rfl rfl ?_
  refine ods (fun c14 => ?_) (fun c14 => ?_)
  ·
    refine ops_nil ?_
    refine run_cond_t rfl ?_
    refine run_region ?_
    refine ov (xmove rfl) rfl rfl rfl ?_
    refine ov (xadd rfl rfl (by unfold I64; omega)) rfl rfl rfl ?_
    refine ov (xassign rfl) rfl rfl rfl ?_
    refine ops_nil ?_
    refine run_seq ?_
    refine run_region ?_
    refine ov (v := .agg #[.string x.Code, .string x.Found, .int .i64 x.Day, .int .i64 x.Seal, .slice h.p h.n h.c]) (xloadN Try.isAgg49 Try.sizeOf49 rfl (O1.cells) rfl) rfl rfl rfl ?_
    refine ov (xmove rfl) rfl rfl rfl ?_
    refine oc (xcall Try.call106 rfl) rfl rfl rfl (past_ok _ _ _ _ _ (K.ext E) (day)) ?_
    rintro _ w3 ⟨rfl, e3⟩
    have z3 := e3.size
    have E := E.trans e3
    replace O1 := O1.ext e3
    refine oalloc Try.zeroValue3 rfl rfl ?_
    intro b4 w4 e4 hb4 hz4 O4
    have E := E.trans e4
    replace O1 := O1.ext e4
    replace O4 : Own w4 b4 [.int .i64 0] 3 := O4
    refine ostore1 Try.sizeOf3 rfl rfl O4 (by simp) rfl rfl ?_
    intro w5 on5 O5
    have hz5 := on5.size
    have E := on5.ext E (by omega)
    replace O1 := on5.own O1 (by omega)
    replace O5 : Own w5 b4 [.int .i64 (past x day : Int)] 3 := O5
    refine ops_nil ?_
    refine run_seq ?_
    refine run_seq ?_
    refine run_draw (by kernel_rfl) (by kernel_rfl) ?_
    refine qv (v := .agg #[.string x.Code, .string x.Found, .int .i64 x.Day, .int .i64 x.Seal, .slice h.p h.n h.c]) (fun w' x_ => xloadN Try.isAgg49 Try.sizeOf49 rfl ((O1.cells).ext x_) rfl) rfl rfl rfl ?_
    have t21 := fun (w' : World) (x_ : Ext w5 w') => Ret.q (w := w') (firstBreak_ok _ _ _ _ _ ((K.ext E).ext x_))
    refine qc (fun w' => xcall Try.call105 rfl) rfl rfl rfl t21 ?_
    clear t21
    refine qv (v := .int .i64 (past x day : Int)) (fun w' x_ => xloadz Try.isAgg3 rfl ((O5.cells).ext x_) rfl) rfl rfl rfl ?_
    refine qv (fun w' x_ => xlss rfl rfl _ rfl) rfl rfl rfl ?_
    refine qds (fun c23 => ?_) (fun c23 => ?_)
    ·
      refine q_nil ?_
      intro w6 e6
      have z6 := e6.size
      have E := E.trans e6
      replace O1 := O1.ext e6
      replace O5 := O5.ext e6
      refine run_cond_t rfl ?_
      refine run_region ?_
      refine ov (xmove rfl) rfl rfl rfl ?_
      refine ov (xadd rfl rfl (by unfold I64; omega)) rfl rfl rfl ?_
      refine ov (xassign rfl) rfl rfl rfl ?_
      refine ops_nil ?_
      refine run_seq ?_
      refine run_seq ?_
      refine run_region ?_
      refine ov (v := .agg #[.string x.Code, .string x.Found, .int .i64 x.Day, .int .i64 x.Seal, .slice h.p h.n h.c]) (xloadN Try.isAgg49 Try.sizeOf49 rfl (O1.cells) rfl) rfl rfl rfl ?_
      refine oc (xcall Try.call110 rfl) rfl rfl rfl (changes_ok _ _ _ x _ (K.ext E) (by omega)) ?_
      rintro _ w7 ⟨e7, q27, m27, d27, rfl, G27⟩
      have z7 := e7.size
      have E := E.trans e7
      replace O1 := O1.ext e7
      replace O5 := O5.ext e7
      refine ov (xmakeFunc rfl rfl) rfl rfl rfl ?_
      refine oc (xcall Try.call140 rfl) rfl rfl rfl (ContainsFuncI64_ok _ _ _ _ _ (G27.sl) 141 [.pointer (some ⟨b4, 0, none⟩)] (fun i : Int => decide (i < (past x day : Int))) Try.call141 (fun w2 x2 i2 hi2 => unseen1_ok _ _ _ _ (O5.ext x2))) ?_
      rintro _ w8 ⟨rfl, e8⟩
      have z8 := e8.size
      have E := E.trans e8
      replace G27 := G27.ext e8
      replace O1 := O1.ext e8
      replace O5 := O5.ext e8
      refine obs (fun c29 => ?_) (fun c29 => ?_)
      ·
        refine ops_nil ?_
        refine run_cond_t rfl ?_
        refine run_region ?_
        refine ov (xmove rfl) rfl rfl rfl ?_
        refine ov (xadd rfl rfl (by unfold I64; omega)) rfl rfl rfl ?_
        refine ov (xassign rfl) rfl rfl rfl ?_
        refine ops_nil ?_
        refine run_seq ?_
        refine run_region ?_
        refine ov (xmove rfl) rfl rfl rfl ?_
        refine ov (xassign rfl) rfl rfl rfl ?_
        refine ops_nil ?_
        refine run_ret Try.func131 (res1 rfl rfl) ?_
        exact ⟨_, rfl, by rw [unseen, if_pos c14, if_pos c23, if_pos (show chAny x (past x day : Int) = true from c29)]; try rfl, E⟩
      ·
        refine ops_nil ?_
        refine run_cond_f rfl ?_
        refine run_skip ?_
        refine run_seq ?_
        refine run_region ?_
        refine ov (xmove rfl) rfl rfl rfl ?_
        refine ov (xassign rfl) rfl rfl rfl ?_
        refine ops_nil ?_
        refine run_ret Try.func131 (res1 rfl rfl) ?_
        exact ⟨_, rfl, by rw [unseen, if_pos c14, if_pos c23, if_neg (by rw [show chAny x (past x day : Int) = false from c29]; simp)]; try rfl, E⟩
    ·
      refine q_nil ?_
      intro w6 e6
      have z6 := e6.size
      have E := E.trans e6
      replace O1 := O1.ext e6
      replace O5 := O5.ext e6
      refine run_cond_f rfl ?_
      refine run_skip ?_
      refine run_seq ?_
      refine run_seq ?_
      refine run_region ?_
      refine ov (v := .agg #[.string x.Code, .string x.Found, .int .i64 x.Day, .int .i64 x.Seal, .slice h.p h.n h.c]) (xloadN Try.isAgg49 Try.sizeOf49 rfl (O1.cells) rfl) rfl rfl rfl ?_
      refine oc (xcall Try.call110 rfl) rfl rfl rfl (changes_ok _ _ _ x _ (K.ext E) (by omega)) ?_
      rintro _ w7 ⟨e7, q27, m27, d27, rfl, G27⟩
      have z7 := e7.size
      have E := E.trans e7
      replace O1 := O1.ext e7
      replace O5 := O5.ext e7
      refine ov (xmakeFunc rfl rfl) rfl rfl rfl ?_
      refine oc (xcall Try.call140 rfl) rfl rfl rfl (ContainsFuncI64_ok _ _ _ _ _ (G27.sl) 141 [.pointer (some ⟨b4, 0, none⟩)] (fun i : Int => decide (i < (past x day : Int))) Try.call141 (fun w2 x2 i2 hi2 => unseen1_ok _ _ _ _ (O5.ext x2))) ?_
      rintro _ w8 ⟨rfl, e8⟩
      have z8 := e8.size
      have E := E.trans e8
      replace G27 := G27.ext e8
      replace O1 := O1.ext e8
      replace O5 := O5.ext e8
      refine obs (fun c29 => ?_) (fun c29 => ?_)
      ·
        refine ops_nil ?_
        refine run_cond_t rfl ?_
        refine run_region ?_
        refine ov (xmove rfl) rfl rfl rfl ?_
        refine ov (xadd rfl rfl (by unfold I64; omega)) rfl rfl rfl ?_
        refine ov (xassign rfl) rfl rfl rfl ?_
        refine ops_nil ?_
        refine run_seq ?_
        refine run_region ?_
        refine ov (xmove rfl) rfl rfl rfl ?_
        refine ov (xassign rfl) rfl rfl rfl ?_
        refine ops_nil ?_
        refine run_ret Try.func131 (res1 rfl rfl) ?_
        exact ⟨_, rfl, by rw [unseen, if_pos c14, if_neg c23, if_pos (show chAny x (past x day : Int) = true from c29)]; try rfl, E⟩
      ·
        refine ops_nil ?_
        refine run_cond_f rfl ?_
        refine run_skip ?_
        refine run_seq ?_
        refine run_region ?_
        refine ov (xmove rfl) rfl rfl rfl ?_
        refine ov (xassign rfl) rfl rfl rfl ?_
        refine ops_nil ?_
        refine run_ret Try.func131 (res1 rfl rfl) ?_
        exact ⟨_, rfl, by rw [unseen, if_pos c14, if_neg c23, if_neg (by rw [show chAny x (past x day : Int) = false from c29]; simp)]; try rfl, E⟩
  ·
    refine ops_nil ?_
    refine run_cond_f rfl ?_
    refine run_skip ?_
    refine run_seq ?_
    refine run_region ?_
    refine ov (v := .agg #[.string x.Code, .string x.Found, .int .i64 x.Day, .int .i64 x.Seal, .slice h.p h.n h.c]) (xloadN Try.isAgg49 Try.sizeOf49 rfl (O1.cells) rfl) rfl rfl rfl ?_
    refine ov (xmove rfl) rfl rfl rfl ?_
    refine oc (xcall Try.call106 rfl) rfl rfl rfl (past_ok _ _ _ _ _ (K.ext E) (day)) ?_
    rintro _ w3 ⟨rfl, e3⟩
    have z3 := e3.size
    have E := E.trans e3
    replace O1 := O1.ext e3
    refine oalloc Try.zeroValue3 rfl rfl ?_
    intro b4 w4 e4 hb4 hz4 O4
    have E := E.trans e4
    replace O1 := O1.ext e4
    replace O4 : Own w4 b4 [.int .i64 0] 3 := O4
    refine ostore1 Try.sizeOf3 rfl rfl O4 (by simp) rfl rfl ?_
    intro w5 on5 O5
    have hz5 := on5.size
    have E := on5.ext E (by omega)
    replace O1 := on5.own O1 (by omega)
    replace O5 : Own w5 b4 [.int .i64 (past x day : Int)] 3 := O5
    refine ops_nil ?_
    refine run_seq ?_
    refine run_seq ?_
    refine run_draw (by kernel_rfl) (by kernel_rfl) ?_
    refine qv (v := .agg #[.string x.Code, .string x.Found, .int .i64 x.Day, .int .i64 x.Seal, .slice h.p h.n h.c]) (fun w' x_ => xloadN Try.isAgg49 Try.sizeOf49 rfl ((O1.cells).ext x_) rfl) rfl rfl rfl ?_
    have t21 := fun (w' : World) (x_ : Ext w5 w') => Ret.q (w := w') (firstBreak_ok _ _ _ _ _ ((K.ext E).ext x_))
    refine qc (fun w' => xcall Try.call105 rfl) rfl rfl rfl t21 ?_
    clear t21
    refine qv (v := .int .i64 (past x day : Int)) (fun w' x_ => xloadz Try.isAgg3 rfl ((O5.cells).ext x_) rfl) rfl rfl rfl ?_
    refine qv (fun w' x_ => xlss rfl rfl _ rfl) rfl rfl rfl ?_
    refine qds (fun c23 => ?_) (fun c23 => ?_)
    ·
      refine q_nil ?_
      intro w6 e6
      have z6 := e6.size
      have E := E.trans e6
      replace O1 := O1.ext e6
      replace O5 := O5.ext e6
      refine run_cond_t rfl ?_
      refine run_region ?_
      refine ov (xmove rfl) rfl rfl rfl ?_
      refine ov (xadd rfl rfl (by unfold I64; omega)) rfl rfl rfl ?_
      refine ov (xassign rfl) rfl rfl rfl ?_
      refine ops_nil ?_
      refine run_seq ?_
      refine run_seq ?_
      refine run_region ?_
      refine ov (v := .agg #[.string x.Code, .string x.Found, .int .i64 x.Day, .int .i64 x.Seal, .slice h.p h.n h.c]) (xloadN Try.isAgg49 Try.sizeOf49 rfl (O1.cells) rfl) rfl rfl rfl ?_
      refine oc (xcall Try.call110 rfl) rfl rfl rfl (changes_ok _ _ _ x _ (K.ext E) (by omega)) ?_
      rintro _ w7 ⟨e7, q27, m27, d27, rfl, G27⟩
      have z7 := e7.size
      have E := E.trans e7
      replace O1 := O1.ext e7
      replace O5 := O5.ext e7
      refine ov (xmakeFunc rfl rfl) rfl rfl rfl ?_
      refine oc (xcall Try.call140 rfl) rfl rfl rfl (ContainsFuncI64_ok _ _ _ _ _ (G27.sl) 141 [.pointer (some ⟨b4, 0, none⟩)] (fun i : Int => decide (i < (past x day : Int))) Try.call141 (fun w2 x2 i2 hi2 => unseen1_ok _ _ _ _ (O5.ext x2))) ?_
      rintro _ w8 ⟨rfl, e8⟩
      have z8 := e8.size
      have E := E.trans e8
      replace G27 := G27.ext e8
      replace O1 := O1.ext e8
      replace O5 := O5.ext e8
      refine obs (fun c29 => ?_) (fun c29 => ?_)
      ·
        refine ops_nil ?_
        refine run_cond_t rfl ?_
        refine run_region ?_
        refine ov (xmove rfl) rfl rfl rfl ?_
        refine ov (xadd rfl rfl (by unfold I64; omega)) rfl rfl rfl ?_
        refine ov (xassign rfl) rfl rfl rfl ?_
        refine ops_nil ?_
        refine run_seq ?_
        refine run_region ?_
        refine ov (xmove rfl) rfl rfl rfl ?_
        refine ov (xassign rfl) rfl rfl rfl ?_
        refine ops_nil ?_
        refine run_ret Try.func131 (res1 rfl rfl) ?_
        exact ⟨_, rfl, by rw [unseen, if_neg c14, if_pos c23, if_pos (show chAny x (past x day : Int) = true from c29)]; try rfl, E⟩
      ·
        refine ops_nil ?_
        refine run_cond_f rfl ?_
        refine run_skip ?_
        refine run_seq ?_
        refine run_region ?_
        refine ov (xmove rfl) rfl rfl rfl ?_
        refine ov (xassign rfl) rfl rfl rfl ?_
        refine ops_nil ?_
        refine run_ret Try.func131 (res1 rfl rfl) ?_
        exact ⟨_, rfl, by rw [unseen, if_neg c14, if_pos c23, if_neg (by rw [show chAny x (past x day : Int) = false from c29]; simp)]; try rfl, E⟩
    ·
      refine q_nil ?_
      intro w6 e6
      have z6 := e6.size
      have E := E.trans e6
      replace O1 := O1.ext e6
      replace O5 := O5.ext e6
      refine run_cond_f rfl ?_
      refine run_skip ?_
      refine run_seq ?_
      refine run_seq ?_
      refine run_region ?_
      refine ov (v := .agg #[.string x.Code, .string x.Found, .int .i64 x.Day, .int .i64 x.Seal, .slice h.p h.n h.c]) (xloadN Try.isAgg49 Try.sizeOf49 rfl (O1.cells) rfl) rfl rfl rfl ?_
      refine oc (xcall Try.call110 rfl) rfl rfl rfl (changes_ok _ _ _ x _ (K.ext E) (by omega)) ?_
      rintro _ w7 ⟨e7, q27, m27, d27, rfl, G27⟩
      have z7 := e7.size
      have E := E.trans e7
      replace O1 := O1.ext e7
      replace O5 := O5.ext e7
      refine ov (xmakeFunc rfl rfl) rfl rfl rfl ?_
      refine oc (xcall Try.call140 rfl) rfl rfl rfl (ContainsFuncI64_ok _ _ _ _ _ (G27.sl) 141 [.pointer (some ⟨b4, 0, none⟩)] (fun i : Int => decide (i < (past x day : Int))) Try.call141 (fun w2 x2 i2 hi2 => unseen1_ok _ _ _ _ (O5.ext x2))) ?_
      rintro _ w8 ⟨rfl, e8⟩
      have z8 := e8.size
      have E := E.trans e8
      replace G27 := G27.ext e8
      replace O1 := O1.ext e8
      replace O5 := O5.ext e8
      refine obs (fun c29 => ?_) (fun c29 => ?_)
      ·
        refine ops_nil ?_
        refine run_cond_t rfl ?_
        refine run_region ?_
        refine ov (xmove rfl) rfl rfl rfl ?_
        refine ov (xadd rfl rfl (by unfold I64; omega)) rfl rfl rfl ?_
        refine ov (xassign rfl) rfl rfl rfl ?_
        refine ops_nil ?_
        refine run_seq ?_
        refine run_region ?_
        refine ov (xmove rfl) rfl rfl rfl ?_
        refine ov (xassign rfl) rfl rfl rfl ?_
        refine ops_nil ?_
        refine run_ret Try.func131 (res1 rfl rfl) ?_
        exact ⟨_, rfl, by rw [unseen, if_neg c14, if_neg c23, if_pos (show chAny x (past x day : Int) = true from c29)]; try rfl, E⟩
      ·
        refine ops_nil ?_
        refine run_cond_f rfl ?_
        refine run_skip ?_
        refine run_seq ?_
        refine run_region ?_
        refine ov (xmove rfl) rfl rfl rfl ?_
        refine ov (xassign rfl) rfl rfl rfl ?_
        refine ops_nil ?_
        refine run_ret Try.func131 (res1 rfl rfl) ?_
        exact ⟨_, rfl, by rw [unseen, if_neg c14, if_neg c23, if_neg (by rw [show chAny x (past x day : Int) = false from c29]; simp)]; try rfl, E⟩

set_option maxHeartbeats 1000000 in
theorem l25Why_ok (p : Option Addr) (n c : Nat) (rs : List Ruling) (x : Exhibit) (h : Hd) (day : Int) (w : World) (H : Sl Ruling.cells 3 w p n c rs) (K : Sl Handing.cells 4 w h.p h.n h.c x.Chain) (he : isExhibit x = true) (hs_ : exSmall x) : Ret Try.prog 130 [.slice p n c, .agg #[.string x.Code, .string x.Found, .int .i64 x.Day, .int .i64 x.Seal, .slice h.p h.n h.c], .int .i64 day] w (Pv w (.int .i64 (unseen rs x day))) := by
  refine ret_of_run (N := 54) Try.func130 rfl rfl rfl ?_
  have hn := H.len
  have hl_ := K.len
  have hl12 := isExhibit_len he
  have hb := brk_le x
  have hz := brkZ_or x
  have hp := past_le x day
  have E : Ext w w := Ext.refl w
  refine run_seq ?_
  refine run_region ?_
  refine obox rfl rfl rfl ?_
  intro b1 w1 e1 hb1 hz1 O1
  have E := E.trans e1
  replace O1 : Own w1 b1 [.string x.Code, .string x.Found, .int .i64 x.Day, .int .i64 x.Seal, .slice h.p h.n h.c] 49 := O1
  refine ov (xassign rfl) rfl rfl rfl ?_
  refine ops_nil ?_
  refine run_seq ?_
  refine run_region ?_
  refine ov (xassign rfl) rfl rfl rfl ?_
  refine ops_nil ?_
  refine run_seq ?_
  refine run_seq ?_
  refine run_region ?_
  refine ov (xmove rfl) rfl rfl rfl ?_
  refine ov (xfieldAddr fo49f0 rfl) rfl rfl rfl ?_
  refine ov (v := .string x.Code) (xload1 Try.isAgg9 rfl (O1.cells) rfl) rfl rfl rfl ?_
  refine ov (xmove rfl) rfl rfl rfl ?_
  refine oc (xcall Try.call94 rfl) rfl rfl rfl (sStanding_ok _ _ _ _ _ _ _ (H.ext E)) ?_
  rintro _ w2 ⟨rfl, e2⟩
  have z2 := e2.size
  have E := E.trans e2
  replace O1 := O1.ext e2
  refine ov (xneq rfl rfl _ rfl) rfl rfl rfl ?_
  refine ods (fun c18 => ?_) (fun c18 => ?_)
  ·
    refine ops_nil ?_
    refine run_cond_t rfl ?_
    refine run_region ?_
    refine ov (xassign rfl) rfl rfl rfl ?_
    refine ops_nil ?_
    refine run_seq ?_
    refine run_region ?_
    refine ov (v := .agg #[.string x.Code, .string x.Found, .int .i64 x.Day, .int .i64 x.Seal, .slice h.p h.n h.c]) (xloadN Try.isAgg49 Try.sizeOf49 rfl (O1.cells) rfl) rfl rfl rfl ?_
    refine ov (xmove rfl) rfl rfl rfl ?_
    refine oc (xcall Try.call102 rfl) rfl rfl rfl (l23Holder_ok _ _ _ _ _ (K.ext E) (day)) ?_
    rintro _ w3 ⟨rfl, e3⟩
    have z3 := e3.size
    have E := E.trans e3
    replace O1 := O1.ext e3
    refine ov (xmove rfl) rfl rfl rfl ?_
    refine ov (xextract rfl rfl) rfl rfl rfl ?_
    refine ov (xextract rfl rfl) rfl rfl rfl ?_
    refine ov (xassign rfl) rfl rfl rfl ?_
    refine ov (xassign rfl) rfl rfl rfl ?_
    refine ops_nil ?_
    refine run_seq ?_
    refine run_region ?_
    refine ov (v := .agg #[.string x.Code, .string x.Found, .int .i64 x.Day, .int .i64 x.Seal, .slice h.p h.n h.c]) (xloadN Try.isAgg49 Try.sizeOf49 rfl (O1.cells) rfl) rfl rfl rfl ?_
    refine oc (xcall Try.call103 rfl) rfl rfl rfl (l23Break_ok _ _ _ _ _ (K.ext E)) ?_
    rintro _ w4 ⟨rfl, e4⟩
    have z4 := e4.size
    have E := E.trans e4
    replace O1 := O1.ext e4
    refine ov (xassign rfl) rfl rfl rfl ?_
    refine ops_nil ?_
    refine run_seq ?_
    refine run_seq ?_
    refine run_region ?_
    refine ov (xmove rfl) rfl rfl rfl ?_
    refine ov (xgeq rfl rfl _ rfl) rfl rfl rfl ?_
    refine ods (fun c28 => ?_) (fun c28 => ?_)
    ·
      refine ov (xmove rfl) rfl rfl rfl ?_
      refine ov (xmove rfl) rfl rfl rfl ?_
      refine ov (xmove rfl) rfl rfl rfl ?_
      refine ov (xlss rfl rfl _ rfl) rfl rfl rfl ?_
      refine ods (fun c32 => ?_) (fun c32 => ?_)
      ·
        refine ov (xpick_t rfl rfl) rfl rfl rfl ?_
        refine ops_nil ?_
        refine run_cond_t rfl ?_
        refine run_region ?_
        refine ov (xmove rfl) rfl rfl rfl ?_
        refine ov (xadd rfl rfl (by unfold I64; omega)) rfl rfl rfl ?_
        refine ov (xassign rfl) rfl rfl rfl ?_
        refine ops_nil ?_
        refine run_seq ?_
        refine run_region ?_
        refine ov (v := .agg #[.string x.Code, .string x.Found, .int .i64 x.Day, .int .i64 x.Seal, .slice h.p h.n h.c]) (xloadN Try.isAgg49 Try.sizeOf49 rfl (O1.cells) rfl) rfl rfl rfl ?_
        refine oc (xcall Try.call38 rfl) rfl rfl rfl (sSealChanges_ok _ _ _ x _ (K.ext E) (by assumption)) ?_
        rintro _ w5 ⟨e5, q38, m38, d38, rfl, G38⟩
        have z5 := e5.size
        have E := E.trans e5
        replace O1 := O1.ext e5
        have hm38 := G38.len
        refine ov (xmove rfl) rfl rfl rfl ?_
        refine ov (xextract rfl rfl) rfl rfl rfl ?_
        refine ov (xextract rfl rfl) rfl rfl rfl ?_
        refine ov (xassign rfl) rfl rfl rfl ?_
        refine ov (xassign rfl) rfl rfl rfl ?_
        refine ops_nil ?_
        refine run_seq ?_
        refine run_seq ?_
        refine run_region ?_
        refine ov (xmove rfl) rfl rfl rfl ?_
        refine ov (xlen Try.underlying55 rfl) rfl rfl rfl ?_
        refine ov (xgtr rfl rfl _ rfl) rfl rfl rfl ?_
        refine ods (fun c43 => ?_) (fun c43 => ?_)
        ·
          refine ov (xmove rfl) rfl rfl rfl ?_
          refine ov (xmove rfl) rfl rfl rfl ?_
          have h46 := (G38.sl).at (i := 0) (by omega)
          refine ov (xindexN (i := 0) Try.underlying55 Try.sizeOf2 rfl rfl (by omega) ((G38.sl).p (i := 0) (by omega)) (by have := (G38.sl).len; omega)) rfl rfl rfl ?_
          refine ov (v := .int .i64 (sealChanges x).1[0]) (xloadz Try.isAgg2 rfl (h46) rfl) rfl rfl rfl ?_
          refine ov (xmove rfl) rfl rfl rfl ?_
          refine ov (xlss rfl rfl _ rfl) rfl rfl rfl ?_
          refine ods (fun c49 => ?_) (fun c49 => ?_)
          ·
            refine ov (xpick_t rfl rfl) rfl rfl rfl ?_
            refine ops_nil ?_
            refine run_cond_t rfl ?_
            refine run_region ?_
            refine ov (xmove rfl) rfl rfl rfl ?_
            refine ov (xadd rfl rfl (by unfold I64; omega)) rfl rfl rfl ?_
            refine ov (xassign rfl) rfl rfl rfl ?_
            refine ops_nil ?_
            refine run_seq ?_
            refine run_region ?_
            refine ov (xmove rfl) rfl rfl rfl ?_
            refine ov (xassign rfl) rfl rfl rfl ?_
            refine ops_nil ?_
            refine run_ret Try.func130 (res1 rfl rfl) ?_
            have hz3 := chAny_head (p := (past x day : Int)) he (by omega)
            rw [decide_eq_true c49] at hz3
            exact ⟨_, rfl, by rw [unseen, if_pos c18, if_pos (by omega), if_pos hz3]; try rfl, E⟩
          ·
            refine ov (xpick_t rfl rfl) rfl rfl rfl ?_
            refine ops_nil ?_
            refine run_cond_f rfl ?_
            refine run_skip ?_
            refine run_seq ?_
            refine run_region ?_
            refine ov (xmove rfl) rfl rfl rfl ?_
            refine ov (xassign rfl) rfl rfl rfl ?_
            refine ops_nil ?_
            refine run_ret Try.func130 (res1 rfl rfl) ?_
            have hz3 := chAny_head (p := (past x day : Int)) he (by omega)
            rw [decide_eq_false c49] at hz3
            exact ⟨_, rfl, by rw [unseen, if_pos c18, if_pos (by omega), if_neg (by simp [hz3])]; try rfl, E⟩
        ·
          refine ov (xmove rfl) rfl rfl rfl ?_
          refine og rfl rfl rfl ?_
          refine og rfl rfl rfl ?_
          refine og rfl rfl rfl ?_
          refine og rfl rfl rfl ?_
          refine og rfl rfl rfl ?_
          refine ov (xpick_f rfl rfl) rfl rfl rfl ?_
          refine ops_nil ?_
          refine run_cond_f rfl ?_
          refine run_skip ?_
          refine run_seq ?_
          refine run_region ?_
          refine ov (xmove rfl) rfl rfl rfl ?_
          refine ov (xassign rfl) rfl rfl rfl ?_
          refine ops_nil ?_
          refine run_ret Try.func130 (res1 rfl rfl) ?_
          have hz3 := chAny_nil (p := (past x day : Int)) he (by omega)
          exact ⟨_, rfl, by rw [unseen, if_pos c18, if_pos (by omega), if_neg (by simp [hz3])]; try rfl, E⟩
      ·
        refine ov (xpick_t rfl rfl) rfl rfl rfl ?_
        refine ops_nil ?_
        refine run_cond_f rfl ?_
        refine run_skip ?_
        refine run_seq ?_
        refine run_region ?_
        refine ov (v := .agg #[.string x.Code, .string x.Found, .int .i64 x.Day, .int .i64 x.Seal, .slice h.p h.n h.c]) (xloadN Try.isAgg49 Try.sizeOf49 rfl (O1.cells) rfl) rfl rfl rfl ?_
        refine oc (xcall Try.call38 rfl) rfl rfl rfl (sSealChanges_ok _ _ _ x _ (K.ext E) (by assumption)) ?_
        rintro _ w5 ⟨e5, q38, m38, d38, rfl, G38⟩
        have z5 := e5.size
        have E := E.trans e5
        replace O1 := O1.ext e5
        have hm38 := G38.len
        refine ov (xmove rfl) rfl rfl rfl ?_
        refine ov (xextract rfl rfl) rfl rfl rfl ?_
        refine ov (xextract rfl rfl) rfl rfl rfl ?_
        refine ov (xassign rfl) rfl rfl rfl ?_
        refine ov (xassign rfl) rfl rfl rfl ?_
        refine ops_nil ?_
        refine run_seq ?_
        refine run_seq ?_
        refine run_region ?_
        refine ov (xmove rfl) rfl rfl rfl ?_
        refine ov (xlen Try.underlying55 rfl) rfl rfl rfl ?_
        refine ov (xgtr rfl rfl _ rfl) rfl rfl rfl ?_
        refine ods (fun c43 => ?_) (fun c43 => ?_)
        ·
          refine ov (xmove rfl) rfl rfl rfl ?_
          refine ov (xmove rfl) rfl rfl rfl ?_
          have h46 := (G38.sl).at (i := 0) (by omega)
          refine ov (xindexN (i := 0) Try.underlying55 Try.sizeOf2 rfl rfl (by omega) ((G38.sl).p (i := 0) (by omega)) (by have := (G38.sl).len; omega)) rfl rfl rfl ?_
          refine ov (v := .int .i64 (sealChanges x).1[0]) (xloadz Try.isAgg2 rfl (h46) rfl) rfl rfl rfl ?_
          refine ov (xmove rfl) rfl rfl rfl ?_
          refine ov (xlss rfl rfl _ rfl) rfl rfl rfl ?_
          refine ods (fun c49 => ?_) (fun c49 => ?_)
          ·
            refine ov (xpick_t rfl rfl) rfl rfl rfl ?_
            refine ops_nil ?_
            refine run_cond_t rfl ?_
            refine run_region ?_
            refine ov (xmove rfl) rfl rfl rfl ?_
            refine ov (xadd rfl rfl (by unfold I64; omega)) rfl rfl rfl ?_
            refine ov (xassign rfl) rfl rfl rfl ?_
            refine ops_nil ?_
            refine run_seq ?_
            refine run_region ?_
            refine ov (xmove rfl) rfl rfl rfl ?_
            refine ov (xassign rfl) rfl rfl rfl ?_
            refine ops_nil ?_
            refine run_ret Try.func130 (res1 rfl rfl) ?_
            have hz3 := chAny_head (p := (past x day : Int)) he (by omega)
            rw [decide_eq_true c49] at hz3
            exact ⟨_, rfl, by rw [unseen, if_pos c18, if_neg (by omega), if_pos hz3]; try rfl, E⟩
          ·
            refine ov (xpick_t rfl rfl) rfl rfl rfl ?_
            refine ops_nil ?_
            refine run_cond_f rfl ?_
            refine run_skip ?_
            refine run_seq ?_
            refine run_region ?_
            refine ov (xmove rfl) rfl rfl rfl ?_
            refine ov (xassign rfl) rfl rfl rfl ?_
            refine ops_nil ?_
            refine run_ret Try.func130 (res1 rfl rfl) ?_
            have hz3 := chAny_head (p := (past x day : Int)) he (by omega)
            rw [decide_eq_false c49] at hz3
            exact ⟨_, rfl, by rw [unseen, if_pos c18, if_neg (by omega), if_neg (by simp [hz3])]; try rfl, E⟩
        ·
          refine ov (xmove rfl) rfl rfl rfl ?_
          refine og rfl rfl rfl ?_
          refine og rfl rfl rfl ?_
          refine og rfl rfl rfl ?_
          refine og rfl rfl rfl ?_
          refine og rfl rfl rfl ?_
          refine ov (xpick_f rfl rfl) rfl rfl rfl ?_
          refine ops_nil ?_
          refine run_cond_f rfl ?_
          refine run_skip ?_
          refine run_seq ?_
          refine run_region ?_
          refine ov (xmove rfl) rfl rfl rfl ?_
          refine ov (xassign rfl) rfl rfl rfl ?_
          refine ops_nil ?_
          refine run_ret Try.func130 (res1 rfl rfl) ?_
          have hz3 := chAny_nil (p := (past x day : Int)) he (by omega)
          exact ⟨_, rfl, by rw [unseen, if_pos c18, if_neg (by omega), if_neg (by simp [hz3])]; try rfl, E⟩
    ·
      refine ov (xmove rfl) rfl rfl rfl ?_
      refine og rfl rfl rfl ?_
      refine og rfl rfl rfl ?_
      refine og rfl rfl rfl ?_
      refine ov (xpick_f rfl rfl) rfl rfl rfl ?_
      refine ops_nil ?_
      refine run_cond_f rfl ?_
      refine run_skip ?_
      refine run_seq ?_
      refine run_region ?_
      refine ov (v := .agg #[.string x.Code, .string x.Found, .int .i64 x.Day, .int .i64 x.Seal, .slice h.p h.n h.c]) (xloadN Try.isAgg49 Try.sizeOf49 rfl (O1.cells) rfl) rfl rfl rfl ?_
      refine oc (xcall Try.call38 rfl) rfl rfl rfl (sSealChanges_ok _ _ _ x _ (K.ext E) (by assumption)) ?_
      rintro _ w5 ⟨e5, q38, m38, d38, rfl, G38⟩
      have z5 := e5.size
      have E := E.trans e5
      replace O1 := O1.ext e5
      have hm38 := G38.len
      refine ov (xmove rfl) rfl rfl rfl ?_
      refine ov (xextract rfl rfl) rfl rfl rfl ?_
      refine ov (xextract rfl rfl) rfl rfl rfl ?_
      refine ov (xassign rfl) rfl rfl rfl ?_
      refine ov (xassign rfl) rfl rfl rfl ?_
      refine ops_nil ?_
      refine run_seq ?_
      refine run_seq ?_
      refine run_region ?_
      refine ov (xmove rfl) rfl rfl rfl ?_
      refine ov (xlen Try.underlying55 rfl) rfl rfl rfl ?_
      refine ov (xgtr rfl rfl _ rfl) rfl rfl rfl ?_
      refine ods (fun c43 => ?_) (fun c43 => ?_)
      ·
        refine ov (xmove rfl) rfl rfl rfl ?_
        refine ov (xmove rfl) rfl rfl rfl ?_
        have h46 := (G38.sl).at (i := 0) (by omega)
        refine ov (xindexN (i := 0) Try.underlying55 Try.sizeOf2 rfl rfl (by omega) ((G38.sl).p (i := 0) (by omega)) (by have := (G38.sl).len; omega)) rfl rfl rfl ?_
        refine ov (v := .int .i64 (sealChanges x).1[0]) (xloadz Try.isAgg2 rfl (h46) rfl) rfl rfl rfl ?_
        refine ov (xmove rfl) rfl rfl rfl ?_
        refine ov (xlss rfl rfl _ rfl) rfl rfl rfl ?_
        refine ods (fun c49 => ?_) (fun c49 => ?_)
        ·
          refine ov (xpick_t rfl rfl) rfl rfl rfl ?_
          refine ops_nil ?_
          refine run_cond_t rfl ?_
          refine run_region ?_
          refine ov (xmove rfl) rfl rfl rfl ?_
          refine ov (xadd rfl rfl (by unfold I64; omega)) rfl rfl rfl ?_
          refine ov (xassign rfl) rfl rfl rfl ?_
          refine ops_nil ?_
          refine run_seq ?_
          refine run_region ?_
          refine ov (xmove rfl) rfl rfl rfl ?_
          refine ov (xassign rfl) rfl rfl rfl ?_
          refine ops_nil ?_
          refine run_ret Try.func130 (res1 rfl rfl) ?_
          have hz3 := chAny_head (p := (past x day : Int)) he (by omega)
          rw [decide_eq_true c49] at hz3
          exact ⟨_, rfl, by rw [unseen, if_pos c18, if_neg (by omega), if_pos hz3]; try rfl, E⟩
        ·
          refine ov (xpick_t rfl rfl) rfl rfl rfl ?_
          refine ops_nil ?_
          refine run_cond_f rfl ?_
          refine run_skip ?_
          refine run_seq ?_
          refine run_region ?_
          refine ov (xmove rfl) rfl rfl rfl ?_
          refine ov (xassign rfl) rfl rfl rfl ?_
          refine ops_nil ?_
          refine run_ret Try.func130 (res1 rfl rfl) ?_
          have hz3 := chAny_head (p := (past x day : Int)) he (by omega)
          rw [decide_eq_false c49] at hz3
          exact ⟨_, rfl, by rw [unseen, if_pos c18, if_neg (by omega), if_neg (by simp [hz3])]; try rfl, E⟩
      ·
        refine ov (xmove rfl) rfl rfl rfl ?_
        refine og rfl rfl rfl ?_
        refine og rfl rfl rfl ?_
        refine og rfl rfl rfl ?_
        refine og rfl rfl rfl ?_
        refine og rfl rfl rfl ?_
        refine ov (xpick_f rfl rfl) rfl rfl rfl ?_
        refine ops_nil ?_
        refine run_cond_f rfl ?_
        refine run_skip ?_
        refine run_seq ?_
        refine run_region ?_
        refine ov (xmove rfl) rfl rfl rfl ?_
        refine ov (xassign rfl) rfl rfl rfl ?_
        refine ops_nil ?_
        refine run_ret Try.func130 (res1 rfl rfl) ?_
        have hz3 := chAny_nil (p := (past x day : Int)) he (by omega)
        exact ⟨_, rfl, by rw [unseen, if_pos c18, if_neg (by omega), if_neg (by simp [hz3])]; try rfl, E⟩
  ·
    refine ops_nil ?_
    refine run_cond_f rfl ?_
    refine run_skip ?_
    refine run_seq ?_
    refine run_region ?_
    refine ov (v := .agg #[.string x.Code, .string x.Found, .int .i64 x.Day, .int .i64 x.Seal, .slice h.p h.n h.c]) (xloadN Try.isAgg49 Try.sizeOf49 rfl (O1.cells) rfl) rfl rfl rfl ?_
    refine ov (xmove rfl) rfl rfl rfl ?_
    refine oc (xcall Try.call102 rfl) rfl rfl rfl (l23Holder_ok _ _ _ _ _ (K.ext E) (day)) ?_
    rintro _ w3 ⟨rfl, e3⟩
    have z3 := e3.size
    have E := E.trans e3
    replace O1 := O1.ext e3
    refine ov (xmove rfl) rfl rfl rfl ?_
    refine ov (xextract rfl rfl) rfl rfl rfl ?_
    refine ov (xextract rfl rfl) rfl rfl rfl ?_
    refine ov (xassign rfl) rfl rfl rfl ?_
    refine ov (xassign rfl) rfl rfl rfl ?_
    refine ops_nil ?_
    refine run_seq ?_
    refine run_region ?_
    refine ov (v := .agg #[.string x.Code, .string x.Found, .int .i64 x.Day, .int .i64 x.Seal, .slice h.p h.n h.c]) (xloadN Try.isAgg49 Try.sizeOf49 rfl (O1.cells) rfl) rfl rfl rfl ?_
    refine oc (xcall Try.call103 rfl) rfl rfl rfl (l23Break_ok _ _ _ _ _ (K.ext E)) ?_
    rintro _ w4 ⟨rfl, e4⟩
    have z4 := e4.size
    have E := E.trans e4
    replace O1 := O1.ext e4
    refine ov (xassign rfl) rfl rfl rfl ?_
    refine ops_nil ?_
    refine run_seq ?_
    refine run_seq ?_
    refine run_region ?_
    refine ov (xmove rfl) rfl rfl rfl ?_
    refine ov (xgeq rfl rfl _ rfl) rfl rfl rfl ?_
    refine ods (fun c28 => ?_) (fun c28 => ?_)
    ·
      refine ov (xmove rfl) rfl rfl rfl ?_
      refine ov (xmove rfl) rfl rfl rfl ?_
      refine ov (xmove rfl) rfl rfl rfl ?_
      refine ov (xlss rfl rfl _ rfl) rfl rfl rfl ?_
      refine ods (fun c32 => ?_) (fun c32 => ?_)
      ·
        refine ov (xpick_t rfl rfl) rfl rfl rfl ?_
        refine ops_nil ?_
        refine run_cond_t rfl ?_
        refine run_region ?_
        refine ov (xmove rfl) rfl rfl rfl ?_
        refine ov (xadd rfl rfl (by unfold I64; omega)) rfl rfl rfl ?_
        refine ov (xassign rfl) rfl rfl rfl ?_
        refine ops_nil ?_
        refine run_seq ?_
        refine run_region ?_
        refine ov (v := .agg #[.string x.Code, .string x.Found, .int .i64 x.Day, .int .i64 x.Seal, .slice h.p h.n h.c]) (xloadN Try.isAgg49 Try.sizeOf49 rfl (O1.cells) rfl) rfl rfl rfl ?_
        refine oc (xcall Try.call38 rfl) rfl rfl rfl (sSealChanges_ok _ _ _ x _ (K.ext E) (by assumption)) ?_
        rintro _ w5 ⟨e5, q38, m38, d38, rfl, G38⟩
        have z5 := e5.size
        have E := E.trans e5
        replace O1 := O1.ext e5
        have hm38 := G38.len
        refine ov (xmove rfl) rfl rfl rfl ?_
        refine ov (xextract rfl rfl) rfl rfl rfl ?_
        refine ov (xextract rfl rfl) rfl rfl rfl ?_
        refine ov (xassign rfl) rfl rfl rfl ?_
        refine ov (xassign rfl) rfl rfl rfl ?_
        refine ops_nil ?_
        refine run_seq ?_
        refine run_seq ?_
        refine run_region ?_
        refine ov (xmove rfl) rfl rfl rfl ?_
        refine ov (xlen Try.underlying55 rfl) rfl rfl rfl ?_
        refine ov (xgtr rfl rfl _ rfl) rfl rfl rfl ?_
        refine ods (fun c43 => ?_) (fun c43 => ?_)
        ·
          refine ov (xmove rfl) rfl rfl rfl ?_
          refine ov (xmove rfl) rfl rfl rfl ?_
          have h46 := (G38.sl).at (i := 0) (by omega)
          refine ov (xindexN (i := 0) Try.underlying55 Try.sizeOf2 rfl rfl (by omega) ((G38.sl).p (i := 0) (by omega)) (by have := (G38.sl).len; omega)) rfl rfl rfl ?_
          refine ov (v := .int .i64 (sealChanges x).1[0]) (xloadz Try.isAgg2 rfl (h46) rfl) rfl rfl rfl ?_
          refine ov (xmove rfl) rfl rfl rfl ?_
          refine ov (xlss rfl rfl _ rfl) rfl rfl rfl ?_
          refine ods (fun c49 => ?_) (fun c49 => ?_)
          ·
            refine ov (xpick_t rfl rfl) rfl rfl rfl ?_
            refine ops_nil ?_
            refine run_cond_t rfl ?_
            refine run_region ?_
            refine ov (xmove rfl) rfl rfl rfl ?_
            refine ov (xadd rfl rfl (by unfold I64; omega)) rfl rfl rfl ?_
            refine ov (xassign rfl) rfl rfl rfl ?_
            refine ops_nil ?_
            refine run_seq ?_
            refine run_region ?_
            refine ov (xmove rfl) rfl rfl rfl ?_
            refine ov (xassign rfl) rfl rfl rfl ?_
            refine ops_nil ?_
            refine run_ret Try.func130 (res1 rfl rfl) ?_
            have hz3 := chAny_head (p := (past x day : Int)) he (by omega)
            rw [decide_eq_true c49] at hz3
            exact ⟨_, rfl, by rw [unseen, if_neg c18, if_pos (by omega), if_pos hz3]; try rfl, E⟩
          ·
            refine ov (xpick_t rfl rfl) rfl rfl rfl ?_
            refine ops_nil ?_
            refine run_cond_f rfl ?_
            refine run_skip ?_
            refine run_seq ?_
            refine run_region ?_
            refine ov (xmove rfl) rfl rfl rfl ?_
            refine ov (xassign rfl) rfl rfl rfl ?_
            refine ops_nil ?_
            refine run_ret Try.func130 (res1 rfl rfl) ?_
            have hz3 := chAny_head (p := (past x day : Int)) he (by omega)
            rw [decide_eq_false c49] at hz3
            exact ⟨_, rfl, by rw [unseen, if_neg c18, if_pos (by omega), if_neg (by simp [hz3])]; try rfl, E⟩
        ·
          refine ov (xmove rfl) rfl rfl rfl ?_
          refine og rfl rfl rfl ?_
          refine og rfl rfl rfl ?_
          refine og rfl rfl rfl ?_
          refine og rfl rfl rfl ?_
          refine og rfl rfl rfl ?_
          refine ov (xpick_f rfl rfl) rfl rfl rfl ?_
          refine ops_nil ?_
          refine run_cond_f rfl ?_
          refine run_skip ?_
          refine run_seq ?_
          refine run_region ?_
          refine ov (xmove rfl) rfl rfl rfl ?_
          refine ov (xassign rfl) rfl rfl rfl ?_
          refine ops_nil ?_
          refine run_ret Try.func130 (res1 rfl rfl) ?_
          have hz3 := chAny_nil (p := (past x day : Int)) he (by omega)
          exact ⟨_, rfl, by rw [unseen, if_neg c18, if_pos (by omega), if_neg (by simp [hz3])]; try rfl, E⟩
      ·
        refine ov (xpick_t rfl rfl) rfl rfl rfl ?_
        refine ops_nil ?_
        refine run_cond_f rfl ?_
        refine run_skip ?_
        refine run_seq ?_
        refine run_region ?_
        refine ov (v := .agg #[.string x.Code, .string x.Found, .int .i64 x.Day, .int .i64 x.Seal, .slice h.p h.n h.c]) (xloadN Try.isAgg49 Try.sizeOf49 rfl (O1.cells) rfl) rfl rfl rfl ?_
        refine oc (xcall Try.call38 rfl) rfl rfl rfl (sSealChanges_ok _ _ _ x _ (K.ext E) (by assumption)) ?_
        rintro _ w5 ⟨e5, q38, m38, d38, rfl, G38⟩
        have z5 := e5.size
        have E := E.trans e5
        replace O1 := O1.ext e5
        have hm38 := G38.len
        refine ov (xmove rfl) rfl rfl rfl ?_
        refine ov (xextract rfl rfl) rfl rfl rfl ?_
        refine ov (xextract rfl rfl) rfl rfl rfl ?_
        refine ov (xassign rfl) rfl rfl rfl ?_
        refine ov (xassign rfl) rfl rfl rfl ?_
        refine ops_nil ?_
        refine run_seq ?_
        refine run_seq ?_
        refine run_region ?_
        refine ov (xmove rfl) rfl rfl rfl ?_
        refine ov (xlen Try.underlying55 rfl) rfl rfl rfl ?_
        refine ov (xgtr rfl rfl _ rfl) rfl rfl rfl ?_
        refine ods (fun c43 => ?_) (fun c43 => ?_)
        ·
          refine ov (xmove rfl) rfl rfl rfl ?_
          refine ov (xmove rfl) rfl rfl rfl ?_
          have h46 := (G38.sl).at (i := 0) (by omega)
          refine ov (xindexN (i := 0) Try.underlying55 Try.sizeOf2 rfl rfl (by omega) ((G38.sl).p (i := 0) (by omega)) (by have := (G38.sl).len; omega)) rfl rfl rfl ?_
          refine ov (v := .int .i64 (sealChanges x).1[0]) (xloadz Try.isAgg2 rfl (h46) rfl) rfl rfl rfl ?_
          refine ov (xmove rfl) rfl rfl rfl ?_
          refine ov (xlss rfl rfl _ rfl) rfl rfl rfl ?_
          refine ods (fun c49 => ?_) (fun c49 => ?_)
          ·
            refine ov (xpick_t rfl rfl) rfl rfl rfl ?_
            refine ops_nil ?_
            refine run_cond_t rfl ?_
            refine run_region ?_
            refine ov (xmove rfl) rfl rfl rfl ?_
            refine ov (xadd rfl rfl (by unfold I64; omega)) rfl rfl rfl ?_
            refine ov (xassign rfl) rfl rfl rfl ?_
            refine ops_nil ?_
            refine run_seq ?_
            refine run_region ?_
            refine ov (xmove rfl) rfl rfl rfl ?_
            refine ov (xassign rfl) rfl rfl rfl ?_
            refine ops_nil ?_
            refine run_ret Try.func130 (res1 rfl rfl) ?_
            have hz3 := chAny_head (p := (past x day : Int)) he (by omega)
            rw [decide_eq_true c49] at hz3
            exact ⟨_, rfl, by rw [unseen, if_neg c18, if_neg (by omega), if_pos hz3]; try rfl, E⟩
          ·
            refine ov (xpick_t rfl rfl) rfl rfl rfl ?_
            refine ops_nil ?_
            refine run_cond_f rfl ?_
            refine run_skip ?_
            refine run_seq ?_
            refine run_region ?_
            refine ov (xmove rfl) rfl rfl rfl ?_
            refine ov (xassign rfl) rfl rfl rfl ?_
            refine ops_nil ?_
            refine run_ret Try.func130 (res1 rfl rfl) ?_
            have hz3 := chAny_head (p := (past x day : Int)) he (by omega)
            rw [decide_eq_false c49] at hz3
            exact ⟨_, rfl, by rw [unseen, if_neg c18, if_neg (by omega), if_neg (by simp [hz3])]; try rfl, E⟩
        ·
          refine ov (xmove rfl) rfl rfl rfl ?_
          refine og rfl rfl rfl ?_
          refine og rfl rfl rfl ?_
          refine og rfl rfl rfl ?_
          refine og rfl rfl rfl ?_
          refine og rfl rfl rfl ?_
          refine ov (xpick_f rfl rfl) rfl rfl rfl ?_
          refine ops_nil ?_
          refine run_cond_f rfl ?_
          refine run_skip ?_
          refine run_seq ?_
          refine run_region ?_
          refine ov (xmove rfl) rfl rfl rfl ?_
          refine ov (xassign rfl) rfl rfl rfl ?_
          refine ops_nil ?_
          refine run_ret Try.func130 (res1 rfl rfl) ?_
          have hz3 := chAny_nil (p := (past x day : Int)) he (by omega)
          exact ⟨_, rfl, by rw [unseen, if_neg c18, if_neg (by omega), if_neg (by simp [hz3])]; try rfl, E⟩
    ·
      refine ov (xmove rfl) rfl rfl rfl ?_
      refine og rfl rfl rfl ?_
      refine og rfl rfl rfl ?_
      refine og rfl rfl rfl ?_
      refine ov (xpick_f rfl rfl) rfl rfl rfl ?_
      refine ops_nil ?_
      refine run_cond_f rfl ?_
      refine run_skip ?_
      refine run_seq ?_
      refine run_region ?_
      refine ov (v := .agg #[.string x.Code, .string x.Found, .int .i64 x.Day, .int .i64 x.Seal, .slice h.p h.n h.c]) (xloadN Try.isAgg49 Try.sizeOf49 rfl (O1.cells) rfl) rfl rfl rfl ?_
      refine oc (xcall Try.call38 rfl) rfl rfl rfl (sSealChanges_ok _ _ _ x _ (K.ext E) (by assumption)) ?_
      rintro _ w5 ⟨e5, q38, m38, d38, rfl, G38⟩
      have z5 := e5.size
      have E := E.trans e5
      replace O1 := O1.ext e5
      have hm38 := G38.len
      refine ov (xmove rfl) rfl rfl rfl ?_
      refine ov (xextract rfl rfl) rfl rfl rfl ?_
      refine ov (xextract rfl rfl) rfl rfl rfl ?_
      refine ov (xassign rfl) rfl rfl rfl ?_
      refine ov (xassign rfl) rfl rfl rfl ?_
      refine ops_nil ?_
      refine run_seq ?_
      refine run_seq ?_
      refine run_region ?_
      refine ov (xmove rfl) rfl rfl rfl ?_
      refine ov (xlen Try.underlying55 rfl) rfl rfl rfl ?_
      refine ov (xgtr rfl rfl _ rfl) rfl rfl rfl ?_
      refine ods (fun c43 => ?_) (fun c43 => ?_)
      ·
        refine ov (xmove rfl) rfl rfl rfl ?_
        refine ov (xmove rfl) rfl rfl rfl ?_
        have h46 := (G38.sl).at (i := 0) (by omega)
        refine ov (xindexN (i := 0) Try.underlying55 Try.sizeOf2 rfl rfl (by omega) ((G38.sl).p (i := 0) (by omega)) (by have := (G38.sl).len; omega)) rfl rfl rfl ?_
        refine ov (v := .int .i64 (sealChanges x).1[0]) (xloadz Try.isAgg2 rfl (h46) rfl) rfl rfl rfl ?_
        refine ov (xmove rfl) rfl rfl rfl ?_
        refine ov (xlss rfl rfl _ rfl) rfl rfl rfl ?_
        refine ods (fun c49 => ?_) (fun c49 => ?_)
        ·
          refine ov (xpick_t rfl rfl) rfl rfl rfl ?_
          refine ops_nil ?_
          refine run_cond_t rfl ?_
          refine run_region ?_
          refine ov (xmove rfl) rfl rfl rfl ?_
          refine ov (xadd rfl rfl (by unfold I64; omega)) rfl rfl rfl ?_
          refine ov (xassign rfl) rfl rfl rfl ?_
          refine ops_nil ?_
          refine run_seq ?_
          refine run_region ?_
          refine ov (xmove rfl) rfl rfl rfl ?_
          refine ov (xassign rfl) rfl rfl rfl ?_
          refine ops_nil ?_
          refine run_ret Try.func130 (res1 rfl rfl) ?_
          have hz3 := chAny_head (p := (past x day : Int)) he (by omega)
          rw [decide_eq_true c49] at hz3
          exact ⟨_, rfl, by rw [unseen, if_neg c18, if_neg (by omega), if_pos hz3]; try rfl, E⟩
        ·
          refine ov (xpick_t rfl rfl) rfl rfl rfl ?_
          refine ops_nil ?_
          refine run_cond_f rfl ?_
          refine run_skip ?_
          refine run_seq ?_
          refine run_region ?_
          refine ov (xmove rfl) rfl rfl rfl ?_
          refine ov (xassign rfl) rfl rfl rfl ?_
          refine ops_nil ?_
          refine run_ret Try.func130 (res1 rfl rfl) ?_
          have hz3 := chAny_head (p := (past x day : Int)) he (by omega)
          rw [decide_eq_false c49] at hz3
          exact ⟨_, rfl, by rw [unseen, if_neg c18, if_neg (by omega), if_neg (by simp [hz3])]; try rfl, E⟩
      ·
        refine ov (xmove rfl) rfl rfl rfl ?_
        refine og rfl rfl rfl ?_
        refine og rfl rfl rfl ?_
        refine og rfl rfl rfl ?_
        refine og rfl rfl rfl ?_
        refine og rfl rfl rfl ?_
        refine ov (xpick_f rfl rfl) rfl rfl rfl ?_
        refine ops_nil ?_
        refine run_cond_f rfl ?_
        refine run_skip ?_
        refine run_seq ?_
        refine run_region ?_
        refine ov (xmove rfl) rfl rfl rfl ?_
        refine ov (xassign rfl) rfl rfl rfl ?_
        refine ops_nil ?_
        refine run_ret Try.func130 (res1 rfl rfl) ?_
        have hz3 := chAny_nil (p := (past x day : Int)) he (by omega)
        exact ⟨_, rfl, by rw [unseen, if_neg c18, if_neg (by omega), if_neg (by simp [hz3])]; try rfl, E⟩
end Go.Proofs.Ytnjohcbamblilaa
