/-
  From the row's own reading of the arguments to the predicates of the contracts, and the frame of a law's row. No condition.
-/
import Derived.Test.YtinpkihmkfiidaaData
import Derived.Test.YtinpkihmkfiidaaRows
import Derived.ProofKit
import Derived.OpenShut
import Derived.Deep.Slices
import Derived.Lib.SmallJoins
namespace Go.Proofs.Ytinpkihmkfiidaa
open Go.RowKit Go.ChangeShapes Go.WideShapes Go.ChangeAt Go.Deep
set_option linter.unusedVariables false
set_option linter.unusedSimpArgs false
set_option linter.unusedSectionVars false

theorem own_ : ownKnob Try.prog.godebug = none := by kernel_rfl
theorem laid_ : laidOutB Try.prog = true := by kernel_rfl

section
variable {H : Type} {enc : TypeId × Value → H} {P : Program} {w : World} {base : Nat} {spare : Nat → Bool} {held : Bool}

/-- what cells of type t read as: some x, whose cells are these -/
def Reads {α : Type} (P : Program) (t : TypeId) (cells : α → List Value) (ok : α → Prop) : Prop :=
  ∀ {H : Type} {enc : TypeId × Value → H} {w : World} {base : Nat} {spare : Nat → Bool} {held : Bool} {fuel : Nat} {cs : List Value} {x : DataW H × List MemPlace},
    DataW.trod enc P w base spare held fuel t cs = some x → ∃ r : α, cs = cells r ∧ ok r

theorem cells?_get {a : Addr} {n : Nat} {cs : List Value} (h : w.cells? base a n = some cs) : cs.length = n ∧ ∀ j v, cs[j]? = some v → w.cell? (a.add j) = some v := by
  unfold World.cells? at h
  split at h
  · have hl := h
    have key : ∀ (l : List Nat) (cs : List Value), l.mapM (fun i => w.cell? (a.add i)) = some cs → cs.length = l.length ∧ ∀ (j : Nat) v, cs[j]? = some v → ∃ i : Nat, l[j]? = some i ∧ w.cell? (a.add i) = some v := by
      intro l
      induction l with
      | nil => intro cs h; simp at h; subst h; simp
      | cons i l ih =>
        intro cs h
        simp only [List.mapM_cons, Option.bind_eq_bind, Option.bind_eq_some_iff, Option.pure_def, Option.some.injEq] at h
        obtain ⟨v, hv, r, hr, rfl⟩ := h
        obtain ⟨h1, h2⟩ := ih r hr
        refine ⟨by simp [h1], fun j u hu => ?_⟩
        cases j with
        | zero => simp at hu; subst hu; exact ⟨i, by simp, hv⟩
        | succ j => obtain ⟨i', hi', hv'⟩ := h2 j u (by simpa using hu); exact ⟨i', by simpa using hi', hv'⟩
    obtain ⟨h1, h2⟩ := key _ _ hl
    refine ⟨by simpa using h1, fun j v hv => ?_⟩
    obtain ⟨i, hi, hv'⟩ := h2 j v hv
    have : i = j := by
      have hj : j < n := by
        rcases Nat.lt_or_ge j n with h' | h'
        · exact h'
        · rw [List.getElem?_eq_none (by simpa using h')] at hi; cases hi
      rw [List.getElem?_range hj] at hi
      simpa using hi.symm
    subst this; exact hv'
  · cases h

theorem sl_of_trod {α : Type} [Inhabited α] {cells : α → List Value} {ok : α → Prop} {t e sz fuel : Nat} {cs : List Value} {x : DataW H × List MemPlace} (ht : P.underlying t = some (.slice e)) (hc : P.cellsOf e = sz) (hsz : sz ≠ 0)
    (hR : Reads P e cells ok) (h : DataW.trod enc P w base spare held fuel t cs = some x) :
    ∃ p n c xs, cs = [.slice p n c] ∧ Sl cells sz w p n c xs ∧ ∀ y ∈ xs, ok y := by
  subst hc
  rcases open_slice ht h with ⟨rfl, _⟩ | ⟨a, len, cap, m, n, D, Pl, rfl, hb, hl, hm, hmm, _, hel⟩
  · exact ⟨none, 0, 0, [], rfl, ⟨rfl, Nat.le_refl _, Nat.zero_le _, fun h => absurd h (by omega), fun i hi => absurd hi (by simp), fun _ => rfl⟩, fun y hy => by cases hy⟩
  · have hlm : len ≤ m := by rw [hmm]; split <;> omega
    have hel' : ∀ i, i < len → ∃ r : α, (∀ j v, (cells r)[j]? = some v → w.cell? ((a.add (i * P.cellsOf e)).add j) = some v) ∧ ok r ∧ (cells r).length = P.cellsOf e := by
      intro i hi
      obtain ⟨cs', h1, h2⟩ := hel i (by omega)
      obtain ⟨r, rfl, hok⟩ := hR h2
      obtain ⟨h3, h4⟩ := cells?_get h1
      exact ⟨r, h4, hok, h3⟩
    obtain ⟨r, hr⟩ := choose_lt hel'
    have hspot : 0 < len → a = ⟨a.block, a.off, Option.none⟩ := by
      intro h0
      obtain ⟨h1, _, h3⟩ := hr 0 h0
      have h4 := h1 0 ((cells (r 0))[0]'(by omega)) (by simp)
      simp only [Nat.zero_mul, Addr.add, if_true] at h4
      have := World.cell?_spot h4
      obtain ⟨b, o, s⟩ := a
      simp only at this; subst this; rfl
    refine ⟨some a, len, cap, (List.range len).map r, rfl, ⟨by simp, hl, hm, fun h0 => ?_, fun i hi => ?_, fun h => by cases h⟩, fun y hy => ?_⟩
    · rw [hspot h0]; rfl
    · have hi' : i < len := by simpa using hi
      intro j v hv
      have h5 := (hr i hi').1 j v (by simpa using hv)
      have ha : a = ⟨pb (some a), po (some a), Option.none⟩ := hspot (by omega)
      rw [ha, add_eq, add_eq] at h5
      exact h5
    · obtain ⟨i, hi, rfl⟩ := List.mem_map.1 hy
      exact (hr i (by simpa using hi)).2.1

theorem trodAll_below (hl : laidOutB P = true) {W W' : World} (hb : Below W.heap.size W W') : ∀ {ts : List TypeId} {vs : List Value} {ds : List (DataW H)} {p : List MemPlace},
    (∀ t ∈ ts, P.readableRec t = true ∧ t < P.types.size) → (∀ x ∈ p, x.block < W.heap.size) → DataW.TrodAll enc P W 0 (fun _ => true) true ts vs ds p →
    DataW.TrodAll enc P W' 0 (fun b => decide (b < W.heap.size)) true ts vs ds p
  | [], [], [], p, _, _, h => h
  | t :: ts, v :: vs, d :: ds, p, ht, hp, h => by
    obtain ⟨q, r, h1, h2, rfl⟩ := h
    exact ⟨q, r, Below.trod hl (ht t (by simp)).1 (ht t (by simp)).2 h1 hb (fun x hx => hp x (by simp [hx])), trodAll_below hl hb (fun t' ht' => ht t' (by simp [ht'])) (fun x hx => hp x (by simp [hx])) h2, rfl⟩
  | [], [], _ :: _, _, _, _, h => h.elim
  | [], _ :: _, _, _, _, _, h => h.elim
  | _ :: _, [], _, _, _, _, h => h.elim
  | _ :: _, _ :: _, [], _, _, _, h => h.elim
end

theorem wf64 {n : Int} (h : (Lit.int .i64 n).wf = true) : I64 n := by
  have h3 : IntKind.i64.min = -9223372036854775808 := rfl
  have h4 : IntKind.i64.max = 9223372036854775807 := rfl
  simp only [Lit.wf, Bool.and_eq_true, decide_eq_true_eq, h3, h4] at h
  exact h
theorem reads_int {P : Program} {t : TypeId} (ht : P.underlying t = some (.int .i64)) : Reads P t (fun n : Int => [.int .i64 n]) I64 := by
  intro H enc w base spare held fuel cs x h
  obtain ⟨n, h1, _, h2⟩ := DataW.trod_int ht h
  refine ⟨n, h1, ?_⟩
  have h3 : IntKind.i64.min = -9223372036854775808 := rfl
  have h4 : IntKind.i64.max = 9223372036854775807 := rfl
  simp only [Lit.wf, Bool.and_eq_true, decide_eq_true_eq, h3, h4] at h2
  exact h2
theorem reads_string {P : Program} {t : TypeId} (ht : P.underlying t = some .string) : Reads P t (fun s : ByteArray => [.string s]) (fun s => s.size ≤ 9223372036854775807) := by
  intro H enc w base spare held fuel cs x h
  obtain ⟨s, h1, _, h2⟩ := DataW.trod_string ht h
  exact ⟨s, h1, by unfold maxLen at h2; omega⟩

/-- A LAW's ROW: its arguments read as they did, it returns true. -/
theorem law_post {s : ChangeSpec} {fn : Func} {H : Type} {enc : TypeId × Value → H} {W W' : World} {args : Array Value} {ds gs : List (DataW H)} {before : List MemPlace}
    (hv : s.vars = []) (hr : fn.resultTypes = #[4]) (hp : ∀ t ∈ fn.params.toList, Try.prog.readableRec t = true ∧ t < Try.prog.types.size) (h4 : Try.prog.underlying 4 = some .bool)
    (hW : DataW.Whole enc Try.prog fn.params.toList s.vars false W args.toList ds gs before) (hs : s.fn H (ds ++ gs) = { results := [.lit (.bool true)], args := ds }) (hx : Ext W W') :
    s.post enc Try.prog fn false true false false W args (.bool true) W' := by
  have hW' := hW
  obtain ⟨p, q, hA, hV, rfl, _, _⟩ := hW
  rw [hv] at hV
  obtain ⟨rfl, rfl⟩ := trodVars_none hV
  have hlt : ∀ x ∈ p, x.block < W.heap.size := fun x hx => by
    have := hW'.lt x (by simp [hx]); exact this
  refine ⟨_, _, _, [], p, [], hW', ?_, ?_, ?_, hx.frame _, fun h => by cases h⟩
  · rw [hs, hr]; exact trodAll_mk1 (shut_bool h4 true)
  · rw [hs]; exact trodAll_below laid_ hx hp hlt hA
  · rw [hs, hv]; rfl
end Go.Proofs.Ytinpkihmkfiidaa
